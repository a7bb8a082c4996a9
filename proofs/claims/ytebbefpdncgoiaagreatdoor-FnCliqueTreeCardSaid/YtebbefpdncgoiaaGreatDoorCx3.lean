/- Parts. -/
import Derived.Test.YtebbefpdncgoiaaGreatDoorCx2
import Derived.Test.YtebbefpdncgoiaaGreatDoorProg
import Derived.KernelRfl
set_option linter.unusedVariables false
set_option linter.unusedSimpArgs false
set_option maxRecDepth 100000
namespace Go.Proofs.YtebbefpdncgoiaaGreatDoor
open Go Go.Sx
open Go.Proofs.Tryz Go.Proofs.YtebbefpdncgoiaaGreatDoor.Tryz IntKind
variable {W w : World} {G : GH} {H : List Itm}
theorem Ay :prog.follows .mixedOrders=true:=by kernel_rfl
theorem Pl2 :CE prog 2:=isAgg2
theorem T42 :SlT prog 42 2 1 8 (iv 0):=⟨underlying42,Tryz.t2,by kernel_rfl,by kernel_rfl,by kernel_rfl,by kernel_rfl⟩
theorem Pl5 :CE prog 5:=isAgg5
theorem Pl190 :CE prog 190:=isAgg190
theorem Pl3 :CE prog 3:=isAgg3
theorem T94 :SlT prog 94 3 1 8 (iv 0):=⟨underlying94,Tryz.t3,by kernel_rfl,by kernel_rfl,by kernel_rfl,by kernel_rfl⟩
theorem T22 :SlT prog 22 42 1 24 sn:=⟨underlying22,Tryz.t42,by kernel_rfl,by kernel_rfl,by kernel_rfl,by kernel_rfl⟩
theorem T71 :SlT prog 71 76 1 4 (.int .u32 0):=⟨underlying71,Tryz.t76,by kernel_rfl,by kernel_rfl,by kernel_rfl,by kernel_rfl⟩
theorem Wk.d2 {v0:Value}{x0:LI}{x1:Int}(m:Mem W G w (H))(h0:R1 G v0 x0){y:Int}(hd:D.d2 x0 x1=some y):
  Calls prog 150 #[v0,(iv x1)] w (Res W G H (λ_ Ho v=>Ho=[]∧v=(iv y))):=by
 refine As (args:=[v0,(iv x1)]) (N:=19) [.tmp 4] func150 Z Z (lb Z) Z λa f=> ?_
 unfold D.d2 at hd
 refine Ae ?_
 refine Ac f Z λa f=>Aa (Af (Ae ?_))
 refine Ab f Z λa f=>A5 underlying42 f Z Z h0 λa f=>Ab f Z λa f=>Aa ?_
 have⟨aa,ab,hd⟩:=bind_some hd
 refine AF (λa w=>∃q_19':Unit,aa= .inl q_19'∧∃(ac:GH),GLe G ac∧Fr a 19 []∧Mem W ac w (H)) ?_ ?_
 ·refine Aj ?_
  refine AD (λad a w=>∃ae:Int,ae=ad∧∃(af:GH),GLe G af∧Fr a 19 [(0,v0),(1,(iv x1)),(7,(iv (x0.length:Int))),(8,(iv ae))]∧Mem W af w (H)) ab ⟨_,Z,_,gr,f.k Z,m⟩ ?_
  clear ab f m
  rintro ad ag ah ai a w ⟨ae,rfl,af,aj,f,m⟩
  have h0:=rd1 aj h0
  refine Ae ?_
  refine Ah f Z Z AH λa f=>Aa (Af ?_)
  rcases Ad ah with⟨ak,ah⟩|⟨ak,ah⟩
  ·refine Ak f Z ak ?_
   refine Al ?_
   refine Af (Aj (Ae ?_))
   refine Ab f Z λa f=>Ac f Z λa f=>Au ?_
   refine Ab f Z λa f=>Ab f Z λa f=>Ab f Z λa f=> ?_
   have⟨al,am,ah⟩:=bind_some ah
   refine Bl T42 f Z Z Z h0 am λan ao a ap aq f=> ?_
   subst aq
   refine AM m Pl2 f Z Z ap λa f=>Ah f Z Z Bq λa f=>Aa ?_
   rcases Ad ah with⟨ar,ah⟩|⟨ar,ah⟩
   ·refine Ak f Z ar ?_
    refine Ae ?_
    refine Ab f Z λa f=>Ac f Z λa f=>Aa ?_
    refine Ap ?_
    obtain rfl:=sj ah
    obtain rfl:=ai _ rfl
    obtain rfl:=sj hd
    exact⟨[(iv ae)],f.g Z,f.d,_,[],aj,m,Z,Z⟩
   ·refine Ai f Z ar ?_
    refine Al ?_
    refine Am ?_
    refine Ah f Z Z Ar λa f=>Ab f Z λa f=>Aa ?_
    obtain rfl:=sj ah
    exact⟨_,Z,_,Z,_,aj,f.k Z,m⟩
  ·refine Ai f Z ak ?_
   refine Ax Z ?_
   obtain rfl:=sj ah
   obtain rfl:=ai _ rfl
   exact⟨_,Z,_,aj,f.weak trivial,m⟩
 ·rintro a w ⟨_,rfl,ac,au,f,m⟩
  refine Ae ?_
  refine Ac f Z λa f=>Aa ?_
  refine Ap ?_
  obtain rfl:=sj hd
  exact⟨[(iv (-1))],f.g Z,f.d,_,[],au,m,Z,Z⟩
theorem Wk.y0 {v0:Value}{x0:LI}{x1:Int}(m:Mem W G w (H))(h0:R1 G v0 x0){y:Bool}(hd:D.y0 x0 x1=some y):
  Calls prog 109 #[v0,(iv x1)] w (Res W G H (λ_ Ho v=>Ho=[]∧v=(.bool y))):=by
 refine As (args:=[v0,(iv x1)]) (N:=9) [.tmp 4] func109 Z Z (lb Z) Z λa f=> ?_
 unfold D.y0 at hd
 refine Ae ?_
 refine Ac f Z λa f=>Au ?_
 refine Ab f Z λa f=>Ab f Z λa f=> ?_
 have⟨aa,ab,hd⟩:=bind_some hd
 refine Bf f Z call150 (Wk.d2 m h0 ab) λac w ad m a f=>Ah f Z Z BT λa f=>Ac f Z λa f=>Aa ?_
 refine Ap ?_
 obtain rfl:=sj hd
 exact⟨[(.bool (decide ((0:Int)≤aa)))],f.g Z,f.d,_,[],ad,m,Z,Z⟩
theorem Wk.W1 {x0:Int}(hW:B5 W)(m:Mem W G w (H)){y:Int}(hd:D.W1 x0=some y):
  Calls prog 179 #[(.int .u32 x0)] w (Res W G H (λ_ Ho v=>Ho=[]∧v=(iv y))):=by
 refine As (args:=[(.int .u32 x0)]) (N:=14) [.tmp 2] func179 Z Z (lb Z) Z λa f=> ?_
 unfold D.W1 at hd
 refine Ae ?_
 refine Ac f Z λa f=>Aa (Af (Ae ?_))
 refine Ab f Z λa f=>Ah f Z Z Bq λa f=>Aa ?_
 rcases Ad hd with⟨aa,hd⟩|⟨aa,hd⟩
 ·refine Ak f Z aa ?_
  refine Ae ?_
  refine Ac f Z λa f=>Aa ?_
  refine Ap ?_
  obtain rfl:=sj hd
  exact⟨[(iv 32)],f.g Z,f.d,_,[],gr,m,Z,Z⟩
 ·refine Ai f Z aa ?_
  refine Al ?_
  refine Ae ?_
  refine Ab f Z λa f=>Ab f Z λa f=>l_o f (r_neg (f.e Z)) λa f=>Ah f Z Z Dc λa f=>Ah f Z Z CX λa f=>l_o f (ER (f.e Z) (f.e Z) (by decide)) λa f=> ?_
  have⟨ab,ac,hd⟩:=bind_some hd
  refine l_tab hW m underlying202 sizeOf5 f Z Z ac λad a ae f=>AM m Pl5 f Z Z ae λa f=>l_o f (DA (f.e Z) ⟨_,underlying5⟩ underlying3) λa f=>Ac f Z λa f=>Aa ?_
  refine Ap ?_
  obtain rfl:=sj hd
  exact⟨[(iv (i64.wrap ab))],f.g Z,f.d,_,[],gr,m,Z,Z⟩
theorem Wk.j1 {x0:Int}(m:Mem W G w (H)){y:Int}(hd:D.j1 x0=some y):
  Calls prog 119 #[(.int .u32 x0)] w (Res W G H (λ_ Ho v=>Ho=[]∧v=(iv y))):=by
 refine As (args:=[(.int .u32 x0)]) (N:=21) [.tmp 2] func119 Z Z (lb Z) Z λa f=> ?_
 unfold D.j1 at hd
 refine Ae ?_
 refine Ac f Z λa f=>Aa (Af ?_)
 refine A3 19 Ay (by kernel_rfl) m ?_
 refine Ag 0 19 Z f Z λa f=>q_p 1 19 Z f (λ_=>ER (f.e Z) (f.e Z) (by decide)) λa f=> ?_
 have⟨aa,ab,hd⟩:=bind_some hd
 refine q_p 2 19 Z f (λ_=>F3 (f.e Z) (f.e Z) underlying9 ab) λa f=>Ag 3 19 Z f Z λa f=>q_p 4 19 Z f (λ_=>ER (f.e Z) (f.e Z) (by decide)) λa f=>q_p 5 19 Z f (λ_=>AA (f.e Z) (f.e Z) Dc) λa f=> ?_
 have⟨ac,ad,hd⟩:=bind_some hd
 refine q_p 6 19 Z f (λ_=>F3 (f.e Z) (f.e Z) underlying9 ad) λa f=>q_p 7 19 Z f (λ_=>AA (f.e Z) (f.e Z) Ar) λa f=>Ag 8 19 Z f Z λa f=>q_p 9 19 Z f (λ_=>ER (f.e Z) (f.e Z) (by decide)) λa f=>q_p 10 19 Z f (λ_=>AA (f.e Z) (f.e Z) Dc) λa f=> ?_
 have⟨ae,af,hd⟩:=bind_some hd
 refine q_p 11 19 Z f (λ_=>F3 (f.e Z) (f.e Z) underlying9 af) λa f=>q_p 12 19 Z f (λ_=>AA (f.e Z) (f.e Z) Ar) λa f=>Ag 13 19 Z f Z λa f=>q_p 14 19 Z f (λ_=>AA (f.e Z) (f.e Z) Dc) λa f=> ?_
 have⟨ag,ah,hd⟩:=bind_some hd
 refine q_p 15 19 Z f (λ_=>F3 (f.e Z) (f.e Z) underlying9 ah) λa f=>q_p 16 19 Z f (λ_=>AA (f.e Z) (f.e Z) Ar) λa f=>q_p 17 19 Z f (λ_=>DA (f.e Z) ⟨_,underlying5⟩ underlying3) λa f=>q_p 18 19 Z f (λ_=>BA (f.e Z)) λa f=>AK λai w aj m=>Aa ?_
 refine Ap ?_
 obtain rfl:=sj hd
 exact⟨[(iv (i64.wrap (IntKind.u8.wrap ((IntKind.u8.wrap ((IntKind.u8.wrap (aa+ac))+ae))+ag))))],f.g Z,f.d,_,[],aj,m,Z,Z⟩
theorem Wk.I {x0:Int}(m:Mem W G w (H)){y:Int}(hd:D.I x0=some y):
  Calls prog 190 #[(iv x0)] w (Res W G H (λ_ Ho v=>Ho=[]∧v=(.int .u64 y))):=by
 refine As (args:=[(iv x0)]) (N:=7) [.tmp 2] func190 Z Z (lb Z) Z λa f=> ?_
 unfold D.I at hd
 refine Ae ?_
 refine Ac f Z λa f=>Au ?_
 refine Ab f Z λa f=>l_o f (DA (f.e Z) ⟨_,underlying3⟩ underlying135) λa f=> ?_
 have⟨aa,ab,hd⟩:=bind_some hd
 refine Av f Z call122 (Wk.E m ab) λac ad ae w af m ag a f=> ?_
 obtain⟨rfl,rfl⟩:=ag
 obtain⟨ah,hd⟩:=D3 hd
 refine l_o f (r_shl (f.e Z) (f.e Z) ah) λa f=>Ac f Z λa f=>Aa ?_
 refine Ap ?_
 obtain rfl:=sj hd
 exact⟨[(.int .u64 (ishl .u64 1 aa))],f.g Z,f.d,_,[],af,m,Z,Z⟩
theorem Wk.b0 {b0:Nat}{aa:Int}(m:Mem W G w (ib b0 190 [(.int .u64 aa)]::H)){y:Int×Int}(hd:D.b0 aa=some y):
  Calls prog 191 #[(pb b0)] w (Res W G H (λ_ Ho v=>Ho=[ib b0 190 [(.int .u64 y.2)]]∧v=(.int .u64 y.1))):=by
 refine As (args:=[(pb b0)]) (N:=33) [.tmp 2] func191 Z Z (lb Z) Z λa f=> ?_
 unfold D.b0 at hd
 refine Ae ?_
 refine Ac f Z λa f=>Aa (Af ?_)
 refine A3 9 Ay (by kernel_rfl) m ?_
 refine Ag 0 9 Z f Z λa f=>q_p 1 9 Z f (λ_=>Bt (f.e Z)) λa f=>BQ 2 9 0 Pl190 Z Z Z f Z λa f=>Ag 3 9 Z f Z λa f=>q_p 4 9 Z f (λ_=>Bt (f.e Z)) λa f=>BQ 5 9 0 Pl190 Z Z Z f Z λa f=>q_p 6 9 Z f (λ_=>r_shl (f.e Z) (f.e Z) (by decide)) λa f=>q_p 7 9 Z f (λ_=>AA (f.e Z) (f.e Z) b_xor) λa f=>q_p 8 9 Z f (λ_=>Bt (f.e Z)) λa f=>AK λab w ac m=>AE 0 0 (ds:=[(.int .u64 (Bb .u64 aa (ishl .u64 aa 13)))]) m sizeOf190 f Z Z Z (AC Z AN) Z (lb Z) Z λw m=>Aa (Af ?_)
 refine A3 9 Ay (by kernel_rfl) m ?_
 refine Ag 0 9 Z f Z λa f=>q_p 1 9 Z f (λ_=>Bt (f.e Z)) λa f=>BQ 2 9 0 Pl190 Z Z Z f Z λa f=>Ag 3 9 Z f Z λa f=>q_p 4 9 Z f (λ_=>Bt (f.e Z)) λa f=>BQ 5 9 0 Pl190 Z Z Z f Z λa f=>q_p 6 9 Z f (λ_=>ER (f.e Z) (f.e Z) (by decide)) λa f=>q_p 7 9 Z f (λ_=>AA (f.e Z) (f.e Z) b_xor) λa f=>q_p 8 9 Z f (λ_=>Bt (f.e Z)) λa f=>AK λad w ae m=>AE 0 0 (ds:=[(.int .u64 (Bb .u64 (Bb .u64 aa (ishl .u64 aa 13)) (BN .u64 (Bb .u64 aa (ishl .u64 aa 13)) 7)))]) m sizeOf190 f Z Z Z (AC Z AN) Z (lb Z) Z λw m=>Aa (Af ?_)
 refine A3 9 Ay (by kernel_rfl) m ?_
 refine Ag 0 9 Z f Z λa f=>q_p 1 9 Z f (λ_=>Bt (f.e Z)) λa f=>BQ 2 9 0 Pl190 Z Z Z f Z λa f=>Ag 3 9 Z f Z λa f=>q_p 4 9 Z f (λ_=>Bt (f.e Z)) λa f=>BQ 5 9 0 Pl190 Z Z Z f Z λa f=>q_p 6 9 Z f (λ_=>r_shl (f.e Z) (f.e Z) (by decide)) λa f=>q_p 7 9 Z f (λ_=>AA (f.e Z) (f.e Z) b_xor) λa f=>q_p 8 9 Z f (λ_=>Bt (f.e Z)) λa f=>AK λaf w ag m=>AE 0 0 (ds:=[(.int .u64 (Bb .u64 (Bb .u64 (Bb .u64 aa (ishl .u64 aa 13)) (BN .u64 (Bb .u64 aa (ishl .u64 aa 13)) 7)) (ishl .u64 (Bb .u64 (Bb .u64 aa (ishl .u64 aa 13)) (BN .u64 (Bb .u64 aa (ishl .u64 aa 13)) 7)) 17)))]) m sizeOf190 f Z Z Z (AC Z AN) Z (lb Z) Z λw m=>Au ?_
 refine Ab f Z λa f=>l_o f (Bt (f.e Z)) λa f=>AJ 0 0 m Pl190 f Z Z Z Z λa f=>Ac f Z λa f=>Aa ?_
 refine Ap ?_
 obtain rfl:=sj hd
 exact⟨[(.int .u64 (Bb .u64 (Bb .u64 (Bb .u64 aa (ishl .u64 aa 13)) (BN .u64 (Bb .u64 aa (ishl .u64 aa 13)) 7)) (ishl .u64 (Bb .u64 (Bb .u64 aa (ishl .u64 aa 13)) (BN .u64 (Bb .u64 aa (ishl .u64 aa 13)) 7)) 17)))],f.g Z,f.d,_,[ib b0 190 [(.int .u64 (Bb .u64 (Bb .u64 (Bb .u64 aa (ishl .u64 aa 13)) (BN .u64 (Bb .u64 aa (ishl .u64 aa 13)) 7)) (ishl .u64 (Bb .u64 (Bb .u64 aa (ishl .u64 aa 13)) (BN .u64 (Bb .u64 aa (ishl .u64 aa 13)) 7)) 17)))]],(gt ac (gt ae ag)),m,Z,Z⟩
theorem Wk.m {x0:Int}(m:Mem W G w (H)){y:Bool}(hd:D.m x0=some y):
  Calls prog 205 #[(iv x0)] w (Res W G H (λ_ Ho v=>Ho=[]∧v=(.bool y))):=by
 refine As (args:=[(iv x0)]) (N:=6) [.tmp 2] func205 Z Z (lb Z) Z λa f=> ?_
 unfold D.m at hd
 refine Ae ?_
 refine Ac f Z λa f=>Au ?_
 refine Ab f Z λa f=>Ab f Z λa f=>Ah f Z Z C4 λa f=>Ac f Z λa f=>Aa ?_
 refine Ap ?_
 obtain rfl:=sj hd
 exact⟨[(.bool (x0 !=x0))],f.g Z,f.d,_,[],gr,m,Z,Z⟩
theorem Wk.y {x0 x1:Int}(m:Mem W G w (H)){y:Int}(hd:D.y x0 x1=some y):
  Calls prog 188 #[(iv x0),(iv x1)] w (Res W G H (λ_ Ho v=>Ho=[]∧v=(iv y))):=by
 refine As (args:=[(iv x0),(iv x1)]) (N:=20) [.tmp 4] func188 Z Z (lb Z) Z λa f=> ?_
 unfold D.y at hd
 refine Ae ?_
 refine Ac f Z λa f=>Au ?_
 refine Ab f Z λa f=> ?_
 have⟨aa,ab,hd⟩:=bind_some hd
 refine Bf f Z call205 (Wk.m m ab) λac w ad m a f=>Ac f Z λa f=>Au ?_
 refine Ab f Z λa f=> ?_
 have⟨ae,af,hd⟩:=bind_some hd
 refine Bf f Z call205 (Wk.m m af) λag w ah m a f=>Ac f Z λa f=>Aa (Af (Ae ?_))
 refine Ab f Z λa f=>Aa ?_
 rcases Ad hd with⟨ai,hd⟩|⟨ai,hd⟩
 ·refine Ak f Z ai ?_
  refine Af (Ae ?_)
  refine Ab f Z λa f=>Aa ?_
  rcases Ad hd with⟨aj,hd⟩|⟨aj,hd⟩
  ·refine Ak f Z aj ?_
   refine Ae ?_
   refine Ac f Z λa f=>Aa ?_
   refine Ap ?_
   obtain rfl:=sj hd
   exact⟨[(iv 0)],f.g Z,f.d,_,[],(gt ad ah),m,Z,Z⟩
  ·refine Ai f Z aj ?_
   refine Al ?_
   refine Ae ?_
   refine Ac f Z λa f=>Aa ?_
   refine Ap ?_
   obtain rfl:=sj hd
   exact⟨[(iv (-1))],f.g Z,f.d,_,[],(gt ad ah),m,Z,Z⟩
 ·refine Ai f Z ai ?_
  refine Al ?_
  refine Af (Ae ?_)
  refine Ab f Z λa f=>Aa ?_
  rcases Ad hd with⟨ak,hd⟩|⟨ak,hd⟩
  ·refine Ak f Z ak ?_
   refine Ae ?_
   refine Ac f Z λa f=>Aa ?_
   refine Ap ?_
   obtain rfl:=sj hd
   exact⟨[(iv 1)],f.g Z,f.d,_,[],(gt ad ah),m,Z,Z⟩
  ·refine Ai f Z ak ?_
   refine Al ?_
   refine Af (Ae ?_)
   refine Ab f Z λa f=>Ab f Z λa f=>Ah f Z Z AH λa f=>Aa ?_
   rcases Ad hd with⟨al,hd⟩|⟨al,hd⟩
   ·refine Ak f Z al ?_
    refine Ae ?_
    refine Ac f Z λa f=>Aa ?_
    refine Ap ?_
    obtain rfl:=sj hd
    exact⟨[(iv (-1))],f.g Z,f.d,_,[],(gt ad ah),m,Z,Z⟩
   ·refine Ai f Z al ?_
    refine Al ?_
    refine Af (Ae ?_)
    refine Ab f Z λa f=>Ab f Z λa f=>Ah f Z Z Ce λa f=>Aa ?_
    rcases Ad hd with⟨am,hd⟩|⟨am,hd⟩
    ·refine Ak f Z am ?_
     refine Ae ?_
     refine Ac f Z λa f=>Aa ?_
     refine Ap ?_
     obtain rfl:=sj hd
     exact⟨[(iv 1)],f.g Z,f.d,_,[],(gt ad ah),m,Z,Z⟩
    ·refine Ai f Z am ?_
     refine Al ?_
     refine Ae ?_
     refine Ac f Z λa f=>Aa ?_
     refine Ap ?_
     obtain rfl:=sj hd
     exact⟨[(iv 0)],f.g Z,f.d,_,[],(gt ad ah),m,Z,Z⟩
theorem Wk.v1 {v0 v1:Value}{x0 x1:LI}(m:Mem W G w (H))(h0:R1 G v0 x0)(h1:R1 G v1 x1){y:Int}(hd:D.v1 x0 x1=some y):
  Calls prog 153 #[v0,v1] w (Res W G H (λ_ Ho v=>Ho=[]∧v=(iv y))):=by
 refine As (args:=[v0,v1]) (N:=36) [.tmp 4] func153 Z Z (lb Z) Z λa f=> ?_
 unfold D.v1 at hd
 refine Ae ?_
 refine Ac f Z λa f=>Aa (Af (Ae ?_))
 refine Ab f Z λa f=>A5 underlying94 f Z Z h0 λa f=>Ab f Z λa f=>Aa ?_
 have⟨aa,ab,hd⟩:=bind_some hd
 refine AF (λa w=>∃q_47':Unit,aa= .inl q_47'∧∃(ac:GH),GLe G ac∧Fr a 36 [(0,v0),(1,v1)]∧Mem W ac w (H)) ?_ ?_
 ·refine Aj ?_
  refine AD (λad a w=>∃ae:Int,ae=ad∧∃(af:GH),GLe G af∧Fr a 36 [(0,v0),(1,v1),(9,v0),(10,(iv (x0.length:Int))),(11,(iv ae))]∧Mem W af w (H)) ab ⟨_,Z,_,gr,f.k Z,m⟩ ?_
  clear ab f m
  rintro ad ag ah ai a w ⟨ae,rfl,af,aj,f,m⟩
  have h0:=rd1 aj h0
  have h1:=rd1 aj h1
  refine Ae ?_
  refine Ah f Z Z AH λa f=>Aa (Af ?_)
  rcases Ad ah with⟨ak,ah⟩|⟨ak,ah⟩
  ·refine Ak f Z ak ?_
   refine Al ?_
   refine Af (Aj (Ae ?_))
   refine Ab f Z λa f=> ?_
   have⟨al,am,ah⟩:=bind_some ah
   refine Bl T94 f Z Z Z h0 am λan ao a ap aq f=> ?_
   subst aq
   refine AM m Pl3 f Z Z ap λa f=>Ac f Z λa f=>Ac f Z λa f=>Aa (Af (Ae ?_))
   refine Ab f Z λa f=>Ab f Z λa f=>A5 underlying94 f Z Z h1 λa f=>Ah f Z Z BT λa f=>Aa ?_
   rcases Ad ah with⟨ar,ah⟩|⟨ar,ah⟩
   ·refine Ak f Z ar ?_
    refine Ae ?_
    refine Ac f Z λa f=>Aa ?_
    refine Ap ?_
    obtain rfl:=sj ah
    obtain rfl:=ai _ rfl
    obtain rfl:=sj hd
    exact⟨[(iv 1)],f.g Z,f.d,_,[],aj,m,Z,Z⟩
   ·refine Ai f Z ar ?_
    refine Al ?_
    refine Ae ?_
    refine Ab f Z λa f=>Ab f Z λa f=> ?_
    have⟨au,av,ah⟩:=bind_some ah
    refine Bl T94 f Z Z Z h1 av λaw ax a ay az f=> ?_
    subst az
    refine AM m Pl3 f Z Z ay λa f=>Ac f Z λa f=>Au ?_
    refine Ab f Z λa f=>Ab f Z λa f=> ?_
    have⟨aA,aB,ah⟩:=bind_some ah
    refine Bf f Z call188 (Wk.y m aB) λaC w aD m a f=>Ac f Z λa f=>Au ?_
    refine Ab f Z λa f=>Ah f Z Z C4 λa f=>Aa ?_
    rcases Ad ah with⟨aE,ah⟩|⟨aE,ah⟩
    ·refine Ak f Z aE ?_
     refine Ae ?_
     refine Ab f Z λa f=>Ac f Z λa f=>Aa ?_
     refine Ap ?_
     obtain rfl:=sj ah
     obtain rfl:=ai _ rfl
     obtain rfl:=sj hd
     exact⟨[(iv aA)],f.g Z,f.d,_,[],(gt aj aD),m,Z,Z⟩
    ·refine Ai f Z aE ?_
     refine Al ?_
     refine Am ?_
     refine Ah f Z Z Ar λa f=>Ab f Z λa f=>Aa ?_
     obtain rfl:=sj ah
     exact⟨_,Z,_,Z,_,(gt aj aD),f.k Z,m⟩
  ·refine Ai f Z ak ?_
   refine Ax Z ?_
   obtain rfl:=sj ah
   obtain rfl:=ai _ rfl
   exact⟨_,Z,_,aj,f.k Z,m⟩
 ·rintro a w ⟨_,rfl,ac,aF,f,m⟩
  have h0:=rd1 aF h0
  have h1:=rd1 aF h1
  refine Af (Ae ?_)
  refine Ab f Z λa f=>A5 underlying94 f Z Z h0 λa f=>Ab f Z λa f=>A5 underlying94 f Z Z h1 λa f=>Ah f Z Z AH λa f=>Aa ?_
  rcases Ad hd with⟨aG,hd⟩|⟨aG,hd⟩
  ·refine Ak f Z aG ?_
   refine Ae ?_
   refine Ac f Z λa f=>Aa ?_
   refine Ap ?_
   obtain rfl:=sj hd
   exact⟨[(iv (-1))],f.g Z,f.d,_,[],aF,m,Z,Z⟩
  ·refine Ai f Z aG ?_
   refine Al ?_
   refine Ae ?_
   refine Ac f Z λa f=>Aa ?_
   refine Ap ?_
   obtain rfl:=sj hd
   exact⟨[(iv 0)],f.g Z,f.d,_,[],aF,m,Z,Z⟩
theorem Wk.O {x0:Int}(m:Mem W G w (H)){y:Bool}(hd:D.O x0=some y):
  Calls prog 164 #[(iv x0)] w (Res W G H (λ_ Ho v=>Ho=[]∧v=(.bool y))):=by
 refine As (args:=[(iv x0)]) (N:=6) [.tmp 2] func164 Z Z (lb Z) Z λa f=> ?_
 unfold D.O at hd
 refine Ae ?_
 refine Ac f Z λa f=>Au ?_
 refine Ab f Z λa f=>Ab f Z λa f=>Ah f Z Z C4 λa f=>Ac f Z λa f=>Aa ?_
 refine Ap ?_
 obtain rfl:=sj hd
 exact⟨[(.bool (x0 !=x0))],f.g Z,f.d,_,[],gr,m,Z,Z⟩
theorem Wk.y1 {x0 x1:Int}(m:Mem W G w (H)){y:Int}(hd:D.y1 x0 x1=some y):
  Calls prog 123 #[(iv x0),(iv x1)] w (Res W G H (λ_ Ho v=>Ho=[]∧v=(iv y))):=by
 refine As (args:=[(iv x0),(iv x1)]) (N:=20) [.tmp 4] func123 Z Z (lb Z) Z λa f=> ?_
 unfold D.y1 at hd
 refine Ae ?_
 refine Ac f Z λa f=>Au ?_
 refine Ab f Z λa f=> ?_
 have⟨aa,ab,hd⟩:=bind_some hd
 refine Bf f Z call164 (Wk.O m ab) λac w ad m a f=>Ac f Z λa f=>Au ?_
 refine Ab f Z λa f=> ?_
 have⟨ae,af,hd⟩:=bind_some hd
 refine Bf f Z call164 (Wk.O m af) λag w ah m a f=>Ac f Z λa f=>Aa (Af (Ae ?_))
 refine Ab f Z λa f=>Aa ?_
 rcases Ad hd with⟨ai,hd⟩|⟨ai,hd⟩
 ·refine Ak f Z ai ?_
  refine Af (Ae ?_)
  refine Ab f Z λa f=>Aa ?_
  rcases Ad hd with⟨aj,hd⟩|⟨aj,hd⟩
  ·refine Ak f Z aj ?_
   refine Ae ?_
   refine Ac f Z λa f=>Aa ?_
   refine Ap ?_
   obtain rfl:=sj hd
   exact⟨[(iv 0)],f.g Z,f.d,_,[],(gt ad ah),m,Z,Z⟩
  ·refine Ai f Z aj ?_
   refine Al ?_
   refine Ae ?_
   refine Ac f Z λa f=>Aa ?_
   refine Ap ?_
   obtain rfl:=sj hd
   exact⟨[(iv (-1))],f.g Z,f.d,_,[],(gt ad ah),m,Z,Z⟩
 ·refine Ai f Z ai ?_
  refine Al ?_
  refine Af (Ae ?_)
  refine Ab f Z λa f=>Aa ?_
  rcases Ad hd with⟨ak,hd⟩|⟨ak,hd⟩
  ·refine Ak f Z ak ?_
   refine Ae ?_
   refine Ac f Z λa f=>Aa ?_
   refine Ap ?_
   obtain rfl:=sj hd
   exact⟨[(iv 1)],f.g Z,f.d,_,[],(gt ad ah),m,Z,Z⟩
  ·refine Ai f Z ak ?_
   refine Al ?_
   refine Af (Ae ?_)
   refine Ab f Z λa f=>Ab f Z λa f=>Ah f Z Z AH λa f=>Aa ?_
   rcases Ad hd with⟨al,hd⟩|⟨al,hd⟩
   ·refine Ak f Z al ?_
    refine Ae ?_
    refine Ac f Z λa f=>Aa ?_
    refine Ap ?_
    obtain rfl:=sj hd
    exact⟨[(iv (-1))],f.g Z,f.d,_,[],(gt ad ah),m,Z,Z⟩
   ·refine Ai f Z al ?_
    refine Al ?_
    refine Af (Ae ?_)
    refine Ab f Z λa f=>Ab f Z λa f=>Ah f Z Z Ce λa f=>Aa ?_
    rcases Ad hd with⟨am,hd⟩|⟨am,hd⟩
    ·refine Ak f Z am ?_
     refine Ae ?_
     refine Ac f Z λa f=>Aa ?_
     refine Ap ?_
     obtain rfl:=sj hd
     exact⟨[(iv 1)],f.g Z,f.d,_,[],(gt ad ah),m,Z,Z⟩
    ·refine Ai f Z am ?_
     refine Al ?_
     refine Ae ?_
     refine Ac f Z λa f=>Aa ?_
     refine Ap ?_
     obtain rfl:=sj hd
     exact⟨[(iv 0)],f.g Z,f.d,_,[],(gt ad ah),m,Z,Z⟩
theorem Wk.c {v0 v1:Value}{x0 x1:LI}(m:Mem W G w (H))(h0:R1 G v0 x0)(h1:R1 G v1 x1){y:Int}(hd:D.c x0 x1=some y):
  Calls prog 58 #[v0,v1] w (Res W G H (λ_ Ho v=>Ho=[]∧v=(iv y))):=by
 refine As (args:=[v0,v1]) (N:=36) [.tmp 4] func58 Z Z (lb Z) Z λa f=> ?_
 unfold D.c at hd
 refine Ae ?_
 refine Ac f Z λa f=>Aa (Af (Ae ?_))
 refine Ab f Z λa f=>A5 underlying42 f Z Z h0 λa f=>Ab f Z λa f=>Aa ?_
 have⟨aa,ab,hd⟩:=bind_some hd
 refine AF (λa w=>∃q_47':Unit,aa= .inl q_47'∧∃(ac:GH),GLe G ac∧Fr a 36 [(0,v0),(1,v1)]∧Mem W ac w (H)) ?_ ?_
 ·refine Aj ?_
  refine AD (λad a w=>∃ae:Int,ae=ad∧∃(af:GH),GLe G af∧Fr a 36 [(0,v0),(1,v1),(9,v0),(10,(iv (x0.length:Int))),(11,(iv ae))]∧Mem W af w (H)) ab ⟨_,Z,_,gr,f.k Z,m⟩ ?_
  clear ab f m
  rintro ad ag ah ai a w ⟨ae,rfl,af,aj,f,m⟩
  have h0:=rd1 aj h0
  have h1:=rd1 aj h1
  refine Ae ?_
  refine Ah f Z Z AH λa f=>Aa (Af ?_)
  rcases Ad ah with⟨ak,ah⟩|⟨ak,ah⟩
  ·refine Ak f Z ak ?_
   refine Al ?_
   refine Af (Aj (Ae ?_))
   refine Ab f Z λa f=> ?_
   have⟨al,am,ah⟩:=bind_some ah
   refine Bl T42 f Z Z Z h0 am λan ao a ap aq f=> ?_
   subst aq
   refine AM m Pl2 f Z Z ap λa f=>Ac f Z λa f=>Ac f Z λa f=>Aa (Af (Ae ?_))
   refine Ab f Z λa f=>Ab f Z λa f=>A5 underlying42 f Z Z h1 λa f=>Ah f Z Z BT λa f=>Aa ?_
   rcases Ad ah with⟨ar,ah⟩|⟨ar,ah⟩
   ·refine Ak f Z ar ?_
    refine Ae ?_
    refine Ac f Z λa f=>Aa ?_
    refine Ap ?_
    obtain rfl:=sj ah
    obtain rfl:=ai _ rfl
    obtain rfl:=sj hd
    exact⟨[(iv 1)],f.g Z,f.d,_,[],aj,m,Z,Z⟩
   ·refine Ai f Z ar ?_
    refine Al ?_
    refine Ae ?_
    refine Ab f Z λa f=>Ab f Z λa f=> ?_
    have⟨au,av,ah⟩:=bind_some ah
    refine Bl T42 f Z Z Z h1 av λaw ax a ay az f=> ?_
    subst az
    refine AM m Pl2 f Z Z ay λa f=>Ac f Z λa f=>Au ?_
    refine Ab f Z λa f=>Ab f Z λa f=> ?_
    have⟨aA,aB,ah⟩:=bind_some ah
    refine Bf f Z call123 (Wk.y1 m aB) λaC w aD m a f=>Ac f Z λa f=>Au ?_
    refine Ab f Z λa f=>Ah f Z Z C4 λa f=>Aa ?_
    rcases Ad ah with⟨aE,ah⟩|⟨aE,ah⟩
    ·refine Ak f Z aE ?_
     refine Ae ?_
     refine Ab f Z λa f=>Ac f Z λa f=>Aa ?_
     refine Ap ?_
     obtain rfl:=sj ah
     obtain rfl:=ai _ rfl
     obtain rfl:=sj hd
     exact⟨[(iv aA)],f.g Z,f.d,_,[],(gt aj aD),m,Z,Z⟩
    ·refine Ai f Z aE ?_
     refine Al ?_
     refine Am ?_
     refine Ah f Z Z Ar λa f=>Ab f Z λa f=>Aa ?_
     obtain rfl:=sj ah
     exact⟨_,Z,_,Z,_,(gt aj aD),f.k Z,m⟩
  ·refine Ai f Z ak ?_
   refine Ax Z ?_
   obtain rfl:=sj ah
   obtain rfl:=ai _ rfl
   exact⟨_,Z,_,aj,f.k Z,m⟩
 ·rintro a w ⟨_,rfl,ac,aF,f,m⟩
  have h0:=rd1 aF h0
  have h1:=rd1 aF h1
  refine Af (Ae ?_)
  refine Ab f Z λa f=>A5 underlying42 f Z Z h0 λa f=>Ab f Z λa f=>A5 underlying42 f Z Z h1 λa f=>Ah f Z Z AH λa f=>Aa ?_
  rcases Ad hd with⟨aG,hd⟩|⟨aG,hd⟩
  ·refine Ak f Z aG ?_
   refine Ae ?_
   refine Ac f Z λa f=>Aa ?_
   refine Ap ?_
   obtain rfl:=sj hd
   exact⟨[(iv (-1))],f.g Z,f.d,_,[],aF,m,Z,Z⟩
  ·refine Ai f Z aG ?_
   refine Al ?_
   refine Ae ?_
   refine Ac f Z λa f=>Aa ?_
   refine Ap ?_
   obtain rfl:=sj hd
   exact⟨[(iv 0)],f.g Z,f.d,_,[],aF,m,Z,Z⟩
theorem Wk.a2 {v0:Value}{x0:LL}(m:Mem W G w (H))(h0:R2 G v0 x0){y:(LL)}(hd:D.a2 x0=some y):
  Calls prog 128 #[v0] w (Res W G H (λG' Ho v=>∃r0:Value,∃i0:Itm,Ho=[i0]∧r0=v∧Ow R1 42 G' i0 r0 y)):=by
 refine As (args:=[v0]) (N:=8) [.tmp 2] func128 Z Z (lb Z) Z λa f=> ?_
 unfold D.a2 at hd
 refine Ae ?_
 refine Ac f Z λa f=>Aa (Af (Ae ?_))
 refine Ab f Z λa f=>l_o f (FK (f.e Z) (f.e Z) h0.hdr underlying22 Z) λa f=>Aa ?_
 rcases Bool.eq_false_or_eq_true (DO v0) with aa|aa
 ·have hz:=h0.nil_inv aa
  subst hz
  replace hd:some ([]:LL)=some _:=hd
  refine Ak f Z aa ?_
  refine Ae ?_
  refine Ac f Z λa f=>Aa ?_
  refine Ap ?_
  obtain⟨ab,m,ac⟩:=Ow.nil R1 42 m
  obtain rfl:=sj hd
  exact⟨[sn],f.g Z,f.d,_,[ab],gr,m,_,_,Z,Z,ac⟩
 ·refine Ai f Z aa ?_
  refine Al ?_
  refine Ae ?_
  refine AY (R:=R1) (xs:=([]:LL)) (RSl.one _) m T22 f Z Z Z (by decide) (All2.nil _) λad ae w a m af f=>Ab f Z λa f=> ?_
  have⟨ag,ah,hd⟩:=bind_some hd
  refine Bh (RSl.one _) 0 m af Z T22 Z (by decide) f Z Z Z (h0.src m) ah λai aj w a m ak f=>Ac f Z λa f=>Aa ?_
  refine Ap ?_
  obtain rfl:=sj hd
  exact⟨[aj],f.g Z,f.d,_,[ai],gr,m,_,_,Z,Z,ak⟩
theorem Wk.P1 {v0:Value}{x0:LI}(m:Mem W G w (H))(h0:RSl (RI .u32) G v0 x0){y:(LI)}(hd:D.P1 x0=some y):
  Calls prog 167 #[v0] w (Res W G H (λG' Ho v=>∃r0:Value,∃i0:Itm,Ho=[i0]∧r0=v∧Ow (RI .u32) 76 G' i0 r0 y)):=by
 refine As (args:=[v0]) (N:=8) [.tmp 2] func167 Z Z (lb Z) Z λa f=> ?_
 unfold D.P1 at hd
 refine Ae ?_
 refine Ac f Z λa f=>Aa (Af (Ae ?_))
 refine Ab f Z λa f=>l_o f (FK (f.e Z) (f.e Z) h0.hdr underlying71 Z) λa f=>Aa ?_
 rcases Bool.eq_false_or_eq_true (DO v0) with aa|aa
 ·have hz:=h0.nil_inv aa
  subst hz
  replace hd:some ([]:LI)=some _:=hd
  refine Ak f Z aa ?_
  refine Ae ?_
  refine Ac f Z λa f=>Aa ?_
  refine Ap ?_
  obtain⟨ab,m,ac⟩:=Ow.nil (RI .u32) 76 m
  obtain rfl:=sj hd
  exact⟨[sn],f.g Z,f.d,_,[ab],gr,m,_,_,Z,Z,ac⟩
 ·refine Ai f Z aa ?_
  refine Al ?_
  refine Ae ?_
  refine AY (R:=(RI .u32)) (xs:=([]:LI)) (RI.one _) m T71 f Z Z Z (by decide) (All2.nil _) λad ae w a m af f=>Ab f Z λa f=> ?_
  have⟨ag,ah,hd⟩:=bind_some hd
  refine Bh (RI.one _) 0 m af Z T71 Z (by decide) f Z Z Z (h0.src m) ah λai aj w a m ak f=>Ac f Z λa f=>Aa ?_
  refine Ap ?_
  obtain rfl:=sj hd
  exact⟨[aj],f.g Z,f.d,_,[ai],gr,m,_,_,Z,Z,ak⟩
theorem Wk.C1 {v0:Value}{it0:Itm}{x0:LI}{x1 x2:Int}(m:Mem W G w (it0::H))(o0:Ow (RI .u32) 76 G it0 v0 x0){y:LI}(hd:D.C1 x0 x1 x2=some y):
  Calls prog 166 #[v0,(iv x1),(iv x2)] w (Res W G H (λG' Ho v=>∃r0:Value,∃i0:Itm,Ho=[i0]∧r0=v∧Ow (RI .u32) 76 G' i0 r0 y)):=by
 unfold D.C1 delD at hd
 split at hd
 next hg=>
  obtain⟨g0,g1,g2⟩:=hg
  obtain rfl:=sj hd
  obtain⟨b,c,rfl,gc⟩:=o0.block m (by omega)
  refine As (args:=[(.slice (some ⟨b,0,none⟩) x0.length c),(iv x1),(iv x2)]) (N:=33) [.tmp 6] func166 Z Z (lb Z) Z λa f=>Ae ?_
  refine Ac f Z λa f=>Au ?_
  refine Ab f Z λa f=>Ab f Z λa f=>Ab f Z λa f=>Ab f Z λa f=>l_o f (E4 (f.e Z) underlying71) λa f=>l_slice3 T71 f Z Z Z Z Z g0 (Int.le_of_lt g1) g2 (Int.ofNat_le.2 gc) λv3 a f=>Aa (Af (Ae ?_))
  refine Ab f Z λa f=>Ab f Z λa f=>Ah f Z Z Bq λa f=>Aa ?_
  refine Ai f Z (beq_eq_false_iff_ne.2 (by omega)) ?_
  refine Al ?_
  refine Ae ?_
  refine Ab f Z λa f=>l_o f (E4 (f.e Z) underlying71) λa f=>Ac f Z λa f=>Aa (Af ?_)
  refine A3 6 Ay (by kernel_rfl) m ?_
  refine Ag 0 6 Z f Z λa f=>Ag 1 6 Z f Z λa f=>q_p 2 6 Z f (λ_=>r_slice_lo T71 (f.e Z) (f.e Z) g0 (by omega)) λa f=>Ag 3 6 Z f Z λa f=>Ag 4 6 Z f Z λa f=>q_p 5 6 Z f (λ_=>r_slice_hi T71 (f.e Z) (f.e Z) (by omega) g2 gc) λa f=>AK λG1 w hl m=> ?_
  have o0:=od1 hl o0
  refine l_del (RI.one _) m o0 T71 f Z g0 g1 g2 Z Z Z (λhp=>if_neg (by omega)) λit1 w a m o1 f=>Ac f Z λa f=>Au ?_
  refine Ab f Z λa f=>Ab f Z λa f=>l_o f (E4 (f.e Z) underlying71) λa f=>Ab f Z λa f=>l_o f (r_slice_mid T71 (f.e Z) (f.e Z) (f.e Z) (by rw[List.length_append,List.length_take,List.length_drop];omega) gc) λa f=>l_wipe m o1 T71 Z Z f Z (Nat.le_refl _) (by rw[List.length_append,List.length_take,List.length_drop];omega) λw m=>Au ?_
  refine Ab f Z λa f=>Ac f Z λa f=>Aa ?_
  refine Ap ?_
  exact⟨[_],f.g Z,f.d,_,[it1],hl,m,_,_,Z,Z,o1⟩
 next=>cases hd
theorem Wk.Q0 {v0:Value}{x0:LI}(m:Mem W G w (H))(h0:R1 G v0 x0){y:(LI)}(hd:D.Q0 x0=some y):
  Calls prog 130 #[v0] w (Res W G H (λG' Ho v=>∃r0:Value,∃i0:Itm,Ho=[i0]∧r0=v∧Ow R0 2 G' i0 r0 y)):=by
 refine As (args:=[v0]) (N:=8) [.tmp 2] func130 Z Z (lb Z) Z λa f=> ?_
 unfold D.Q0 at hd
 refine Ae ?_
 refine Ac f Z λa f=>Aa (Af (Ae ?_))
 refine Ab f Z λa f=>l_o f (FK (f.e Z) (f.e Z) h0.hdr underlying42 Z) λa f=>Aa ?_
 rcases Bool.eq_false_or_eq_true (DO v0) with aa|aa
 ·have hz:=h0.nil_inv aa
  subst hz
  replace hd:some ([]:LI)=some _:=hd
  refine Ak f Z aa ?_
  refine Ae ?_
  refine Ac f Z λa f=>Aa ?_
  refine Ap ?_
  obtain⟨ab,m,ac⟩:=Ow.nil R0 2 m
  obtain rfl:=sj hd
  exact⟨[sn],f.g Z,f.d,_,[ab],gr,m,_,_,Z,Z,ac⟩
 ·refine Ai f Z aa ?_
  refine Al ?_
  refine Ae ?_
  refine AY (R:=R0) (xs:=([]:LI)) (RI.one _) m T42 f Z Z Z (by decide) (All2.nil _) λad ae w a m af f=>Ab f Z λa f=> ?_
  have⟨ag,ah,hd⟩:=bind_some hd
  refine Bh (RI.one _) 0 m af Z T42 Z (by decide) f Z Z Z (h0.src m) ah λai aj w a m ak f=>Ac f Z λa f=>Aa ?_
  refine Ap ?_
  obtain rfl:=sj hd
  exact⟨[aj],f.g Z,f.d,_,[ai],gr,m,_,_,Z,Z,ak⟩
theorem Wk.o1 {v0:Value}{x0:LI}(m:Mem W G w (H))(h0:R1 G v0 x0){y:Int}(hd:D.o1 x0=some y):
  Calls prog 89 #[v0] w (Res W G H (λ_ Ho v=>Ho=[]∧v=(iv y))):=by
 refine As (args:=[v0]) (N:=25) [.tmp 2] func89 Z Z (lb Z) Z λa f=> ?_
 unfold D.o1 at hd
 refine Ae ?_
 refine Ac f Z λa f=>Aa (Af (Ae ?_))
 refine Ab f Z λa f=>A5 underlying94 f Z Z h0 λa f=>Ah f Z Z AH λa f=>Aa ?_
 rcases Ad hd with⟨aa,hd⟩|⟨aa,hd⟩
 ·refine Ak f Z aa ?_
  cases hd
 ·refine Ai f Z aa ?_
  refine Al ?_
  refine Ae ?_
  refine Ab f Z λa f=> ?_
  have⟨ab,ac,hd⟩:=bind_some hd
  refine Bl T94 f Z Z Z h0 ac λad ae a af ag f=> ?_
  subst ag
  refine AM m Pl3 f Z Z af λa f=>Ac f Z λa f=>Aa (Af (Ae ?_))
  refine Ac f Z λa f=>Aa ?_
  have⟨ah,ai,hd⟩:=bind_some hd
  refine AF (λa w=>∃aj:Int,aj=ah∧∃(ak:GH),GLe G ak∧Fr a 25 [(3,(iv aj))]∧Mem W ak w (H)) ?_ ?_
  ·refine Aj ?_
   refine AD (λal a w=>∃am:Int,∃an:Int,(am,an)=al∧∃(ao:GH),GLe G ao∧Fr a 25 [(0,v0),(3,(iv am)),(4,(iv an))]∧Mem W ao w (H)) ai ⟨_,_,Z,_,gr,f.k Z,m⟩ ?_
   clear ai f m
   rintro al ap aq ar a w ⟨am,an,rfl,ao,au,f,m⟩
   have h0:=rd1 au h0
   refine Af (Ae ?_)
   refine Ab f Z λa f=>Ab f Z λa f=>A5 underlying94 f Z Z h0 λa f=>Ah f Z Z AH λa f=>Aa ?_
   rcases Ad aq with⟨av,aq⟩|⟨av,aq⟩
   ·refine Ak f Z av ?_
    refine Al ?_
    refine Af (Aj (Am ?_))
    refine Ab f Z λa f=>Ab f Z λa f=>Ab f Z λa f=> ?_
    have⟨aw,ax,aq⟩:=bind_some aq
    refine Bl T94 f Z Z Z h0 ax λay az a aA aB f=> ?_
    subst aB
    refine AM m Pl3 f Z Z aA λa f=>l_o f (r_max2 (f.e Z) (f.e Z)) λa f=>Ac f Z λa f=>Aa (Am ?_)
    refine Ab f Z λa f=>Ah f Z Z Ar λa f=>Ac f Z λa f=>Aa ?_
    obtain rfl:=sj aq
    exact⟨_,Z,_,_,Z,_,au,f.k Z,m⟩
   ·refine Ai f Z av ?_
    refine Ax Z ?_
    obtain rfl:=sj aq
    obtain rfl:=ar _ rfl
    exact⟨_,Z,_,au,f.k Z,m⟩
  ·rintro a w ⟨aj,rfl,ak,aC,f,m⟩
   refine Ae ?_
   refine Ab f Z λa f=>Ac f Z λa f=>Aa ?_
   refine Ap ?_
   obtain rfl:=sj hd
   exact⟨[(iv aj)],f.g Z,f.d,_,[],aC,m,Z,Z⟩
end Go.Proofs.YtebbefpdncgoiaaGreatDoor

set_option maxRecDepth 100000
namespace Go.Proofs.YtebbefpdncgoiaaGreatDoor
open Go Go.Sx
open Go.Proofs.Tryz Go.Proofs.YtebbefpdncgoiaaGreatDoor.Tryz IntKind
variable {W w : World} {G : GH} {H : List Itm}
theorem T48 :SlT prog 48 5 1 1 (.int .u8 0):=⟨underlying48,Tryz.t5,by kernel_rfl,by kernel_rfl,by kernel_rfl,by kernel_rfl⟩
theorem Pl48 :CE prog 48:=isAgg48
theorem Bd :CE prog 22:=isAgg22
theorem A8 :Agg prog 30 1:=⟨isAgg30,sizeOf30⟩
theorem AZ :CE prog 42:=isAgg42
theorem Wk.O1 {v0:Value}{x0:LI}(m:Mem W G w (H))(h0:RSl (RI .u8) G v0 x0){y:Bool}(hd:D.O1 x0=some y):
  Calls prog 26 #[v0] w (Res W G H (λ_ Ho v=>Ho=[]∧v=(.bool y))):=by
 refine As (args:=[v0]) (N:=6) [.tmp 2] func26 Z Z (lb Z) Z λa f=> ?_
 unfold D.O1 at hd
 refine Ae ?_
 refine Ac f Z λa f=>Au ?_
 refine Ab f Z λa f=>A5 underlying48 f Z Z h0 λa f=>Ah f Z Z Ce λa f=>Ac f Z λa f=>Aa ?_
 refine Ap ?_
 obtain rfl:=sj hd
 exact⟨[(.bool (decide ((4096:Int)<(x0.length:Int))))],f.g Z,f.d,_,[],gr,m,Z,Z⟩
theorem Wk.r1 {v0:Value}{x0:LI}(m:Mem W G w (H))(h0:RSl (RI .u8) G v0 x0){y:(LI)×Int×Int}(hd:D.r1 x0=some y):
  Calls prog 74 #[v0] w (Res W G H (λG' Ho v=>∃r0:Value,∃c1:Nat,Ho=[ib c1 151 [r0,(iv y.2.1),(iv y.2.2)]]∧v=(pb c1)∧RSl (RI .u8) G' r0 y.1)):=by
 refine As (args:=[v0]) (N:=28) [.tmp 2] func74 Z Z (lb Z) Z λa f=> ?_
 unfold D.r1 at hd
 refine Ae ?_
 refine Ac f Z λa f=>Au ?_
 refine Ab f Z λa f=>A5 underlying48 f Z Z h0 λa f=>Ah f Z Z Ar λa f=>Ac f Z λa f=>Aa (Af (Ae ?_))
 refine Ac f Z λa f=>Aa ?_
 have⟨aa,ab,hd⟩:=bind_some hd
 refine AF (λa w=>∃ac:Int,ac=aa∧∃(ad:GH),GLe G ad∧Fr a 28 [(0,v0),(3,(iv ac))]∧Mem W ad w (H)) ?_ ?_
 ·refine Aj ?_
  refine AD (λae a w=>∃af:Int,∃ag:Int,(af,ag)=ae∧∃(ah:GH),GLe G ah∧Fr a 28 [(0,v0),(3,(iv af)),(4,(iv ag))]∧Mem W ah w (H)) ab ⟨_,_,Z,_,gr,f.k Z,m⟩ ?_
  clear ab f m
  rintro ae ai aj ak a w ⟨af,ag,rfl,ah,al,f,m⟩
  have h0:=rd1 al h0
  refine Af (Ae ?_)
  refine Ab f Z λa f=>Ab f Z λa f=>A5 underlying48 f Z Z h0 λa f=>Ah f Z Z AH λa f=>Aa ?_
  rcases Ad aj with⟨am,aj⟩|⟨am,aj⟩
  ·refine Ak f Z am ?_
   refine Al ?_
   refine Af (Aj (Am ?_))
   refine Ab f Z λa f=>Ah f Z Z CX λa f=>Ab f Z λa f=>Ab f Z λa f=> ?_
   have⟨an,ao,aj⟩:=bind_some aj
   refine Bl T48 f Z Z Z h0 ao λap aq a ar au f=> ?_
   subst au
   refine AM m Pl5 f Z Z ar λa f=>l_o f (DA (f.e Z) ⟨_,underlying5⟩ underlying2) λa f=>Ah f Z Z Ar λa f=>Ah f Z Z Ar λa f=>Ah f Z Z Dc λa f=>Ac f Z λa f=>Aa (Am ?_)
   refine Ab f Z λa f=>Ah f Z Z Ar λa f=>Ac f Z λa f=>Aa ?_
   obtain rfl:=sj aj
   exact⟨_,Z,_,_,Z,_,al,f.k Z,m⟩
  ·refine Ai f Z am ?_
   refine Ax Z ?_
   obtain rfl:=sj aj
   obtain rfl:=ak _ rfl
   exact⟨_,Z,_,al,f.k Z,m⟩
 ·rintro a w ⟨ac,rfl,ad,av,f,m⟩
  have h0:=rd1 av h0
  refine Ae ?_
  refine Ab f Z λa f=>Ab f Z λa f=> ?_
  have aw:∀w,(Instr.build 151 #[(0,v0),(2,(iv ac))]).run prog w= .ok (.agg #[v0,(iv 0),(iv ac)]) w:=by intro w;simp[Instr.build,Instr.fill,h0.cells,Cr,Ch,BV,B7,BS,Cs]
  refine CZ f Z Z aw λa f=>By (cs:=[v0,(iv 0),(iv ac)]) m f Z Z Z λax w a m f=>Ac f Z λa f=>Aa ?_
  refine Ap ?_
  obtain rfl:=sj hd
  exact⟨[(pb ax)],f.g Z,f.d,_,[ib ax 151 [v0,(iv 0),(iv ac)]],av,m,_,_,Z,Z,h0⟩
theorem Wk.C {aa:Value}{b0:Nat}{ab:LI}{ac ad:Int}(m:Mem W G w (ib b0 151 [aa,(iv ac),(iv ad)]::H))(ae:RSl (RI .u8) G aa ab){y:Int×(LI)×Int×Int}(hd:D.C ab ac ad=some y):
  Calls prog 199 #[(pb b0)] w (Res W G H (λG' Ho v=>∃r0:Value,Ho=[ib b0 151 [r0,(iv y.2.2.1),(iv y.2.2.2)]]∧v=(iv y.1)∧RSl (RI .u8) G' r0 y.2.1)):=by
 refine As (args:=[(pb b0)]) (N:=58) [.tmp 2] func199 Z Z (lb Z) Z λa f=> ?_
 unfold D.C at hd
 refine Ae ?_
 refine Ac f Z λa f=>Au ?_
 refine Ab f Z λa f=>Ab f Z λa f=>l_o f (Bt (f.e Z)) λa f=>Bu underlying151 Z sizeOf2 f Z λa f=>AJ 0 2 m Pl2 f Z Z Z Z λa f=>Ah f Z Z CX λa f=>Ah f Z Z Ar λa f=>l_o f (Bt (f.e Z)) λa f=>Bu underlying151 Z sizeOf2 f Z λa f=>AE 0 2 (ds:=[(iv (i64.wrap ((i64.wrap (ad*6364136223846793005))+1442695040888963407)))]) m sizeOf2 f Z Z Z (AC Z AN) Z (lb Z) Z λw m=>Aa (Af ?_)
 refine A3 13 Ay (by kernel_rfl) m ?_
 refine Ag 0 13 Z f Z λa f=>q_p 1 13 Z f (λ_=>Bt (f.e Z)) λa f=>B9 2 13 underlying151 Z sizeOf2 Z f Z λa f=>BQ 3 13 0 Pl2 Z Z Z f Z λa f=>q_p 4 13 Z f (λ_=>ER (f.e Z) (f.e Z) (by decide)) λa f=>Ag 5 13 Z f Z λa f=>q_p 6 13 Z f (λ_=>Bt (f.e Z)) λa f=>B9 7 13 underlying151 Z sizeOf2 Z f Z λa f=>BQ 8 13 0 Pl2 Z Z Z f Z λa f=>q_p 9 13 Z f (λ_=>ER (f.e Z) (f.e Z) (by decide)) λa f=>q_p 10 13 Z f (λ_=>AA (f.e Z) (f.e Z) b_xor) λa f=>q_p 11 13 Z f (λ_=>AA (f.e Z) (f.e Z) Dc) λa f=>q_p 12 13 Z f (λ_=>BA (f.e Z)) λa f=>AK λaf w ag m=> ?_
 have ae:=rd1 ag ae
 refine Aa (Af (Af ?_))
 refine A3 10 Ay (by kernel_rfl) m ?_
 refine Ag 0 10 Z f Z λa f=>q_p 1 10 Z f (λ_=>Bt (f.e Z)) λa f=>B9 2 10 underlying151 Z sizeOf3 Z f Z λa f=>BQ 3 10 0 Pl3 Z Z Z f Z λa f=>Ag 4 10 Z f Z λa f=>q_p 5 10 Z f (λ_=>Bt (f.e Z)) λa f=>B9 6 10 underlying151 Z sizeOf48 Z f Z λa f=>BQ 7 10 0 Pl48 Z Z Z f Z λa f=>q_len (i:=8) 10 underlying48 ae Z (by kernel_rfl) Z f Z Z Z λa f=>q_p 9 10 Z f (λ_=>AA (f.e Z) (f.e Z) AH) λa f=>AK λah w ai m=> ?_
 have ae:=rd1 ai ae
 refine Aa ?_
 rcases Ad hd with⟨aj,hd⟩|⟨aj,hd⟩
 ·refine Ak f Z aj ?_
  refine Af ?_
  refine A3 15 Ay (by kernel_rfl) m ?_
  refine Ag 0 15 Z f Z λa f=>Ag 1 15 Z f Z λa f=>q_p 2 15 Z f (λ_=>Bt (f.e Z)) λa f=>B9 3 15 underlying151 Z sizeOf48 Z f Z λa f=>BQ 4 15 0 Pl48 Z Z Z f Z λa f=>Ag 5 15 Z f Z λa f=>q_p 6 15 Z f (λ_=>Bt (f.e Z)) λa f=>B9 7 15 underlying151 Z sizeOf3 Z f Z λa f=>BQ 8 15 0 Pl3 Z Z Z f Z λa f=> ?_
  have⟨ak,al,hd⟩:=bind_some hd
  refine Cj 9 15 T48 ae al Z f Z Z λam an a ao ap f=> ?_
  subst ap
  refine Ck 10 15 Pl5 ao Z f Z λa f=>q_p 11 15 Z f (λ_=>DA (f.e Z) ⟨_,underlying5⟩ underlying2) λa f=>q_p 12 15 Z f (λ_=>AA (f.e Z) (f.e Z) Ar) λa f=>q_p 13 15 Z f (λ_=>AA (f.e Z) (f.e Z) Dc) λa f=>q_p 14 15 Z f (λ_=>BA (f.e Z)) λa f=>AK λaq w ar m=> ?_
  have ae:=rd1 ar ae
  refine Aa (Am ?_)
  refine Ab f Z λa f=>Ab f Z λa f=>l_o f (Bt (f.e Z)) λa f=>Bu underlying151 Z sizeOf3 f Z λa f=>AJ 0 1 m Pl3 f Z Z Z Z λa f=>Ah f Z Z Ar λa f=>l_o f (Bt (f.e Z)) λa f=>Bu underlying151 Z sizeOf3 f Z λa f=>AE 0 1 (ds:=[(iv (i64.wrap (ac+1)))]) m sizeOf3 f Z Z Z (AC Z AN) Z (lb Z) Z λw m=>Au ?_
  refine Ab f Z λa f=>Ac f Z λa f=>Aa ?_
  refine Ap ?_
  obtain rfl:=sj hd
  exact⟨[(iv (iand .i64 (i64.wrap ((iand .i64 (Bb .i64 (BN .i64 (i64.wrap ((i64.wrap (ad*6364136223846793005))+1442695040888963407)) 33) (BN .i64 (i64.wrap ((i64.wrap (ad*6364136223846793005))+1442695040888963407)) 45)) 255)+(i64.wrap ak))) 255))],f.g Z,f.d,_,[ib b0 151 [aa,(iv (i64.wrap (ac+1))),(iv (i64.wrap ((i64.wrap (ad*6364136223846793005))+1442695040888963407)))]],(gt ag (gt ai ar)),m,_,Z,Z,ae⟩
 ·refine Ai f Z aj ?_
  refine Al ?_
  refine Ae ?_
  refine Ab f Z λa f=>Ac f Z λa f=>Aa ?_
  refine Ap ?_
  obtain rfl:=sj hd
  exact⟨[(iv (iand .i64 (Bb .i64 (BN .i64 (i64.wrap ((i64.wrap (ad*6364136223846793005))+1442695040888963407)) 33) (BN .i64 (i64.wrap ((i64.wrap (ad*6364136223846793005))+1442695040888963407)) 45)) 255))],f.g Z,f.d,_,[ib b0 151 [aa,(iv ac),(iv (i64.wrap ((i64.wrap (ad*6364136223846793005))+1442695040888963407)))]],(gt ag ai),m,_,Z,Z,ae⟩
theorem Wk.d {aa:Value}{b0:Nat}{ab:LI}{ac ad x1:Int}(m:Mem W G w (ib b0 151 [aa,(iv ac),(iv ad)]::H))(ae:RSl (RI .u8) G aa ab){y:Int×(LI)×Int×Int}(hd:D.d ab ac ad x1=some y):
  Calls prog 174 #[(pb b0),(iv x1)] w (Res W G H (λG' Ho v=>∃r0:Value,Ho=[ib b0 151 [r0,(iv y.2.2.1),(iv y.2.2.2)]]∧v=(iv y.1)∧RSl (RI .u8) G' r0 y.2.1)):=by
 refine As (args:=[(pb b0),(iv x1)]) (N:=37) [.tmp 4] func174 Z Z (lb Z) Z λa f=> ?_
 unfold D.d at hd
 refine Ae ?_
 refine Ac f Z λa f=>Aa (Af (Ae ?_))
 refine Ab f Z λa f=>Ah f Z Z Ci λa f=>Aa ?_
 rcases Ad hd with⟨af,hd⟩|⟨af,hd⟩
 ·refine Ak f Z af ?_
  refine Ae ?_
  refine Ac f Z λa f=>Aa ?_
  refine Ap ?_
  obtain rfl:=sj hd
  exact⟨[(iv 0)],f.g Z,f.d,_,[ib b0 151 [aa,(iv ac),(iv ad)]],gr,m,_,Z,Z,ae⟩
 ·refine Ai f Z af ?_
  refine Al ?_
  refine Af (Ae ?_)
  refine Ab f Z λa f=>Ah f Z Z Ci λa f=>Aa ?_
  rcases Ad hd with⟨ag,hd⟩|⟨ag,hd⟩
  ·refine Ak f Z ag ?_
   refine Ae ?_
   refine Ab f Z λa f=> ?_
   have⟨ah,ai,hd⟩:=bind_some hd
   refine Av f Z call199 (Wk.C m ae ai) λaj ak al w am m an a f=> ?_
   obtain⟨ao,rfl,rfl,ap⟩:=an
   refine Ab f Z λa f=> ?_
   obtain⟨aq,hd⟩:=D3 hd
   refine Ah f Z Z (b_rem aq) λa f=>Ac f Z λa f=>Aa ?_
   refine Ap ?_
   obtain rfl:=sj hd
   exact⟨[(iv (Int.tmod ah.1 x1))],f.g Z,f.d,_,[ib b0 151 [ao,(iv ah.2.2.1),(iv ah.2.2.2)]],am,m,_,Z,Z,ap⟩
  ·refine Ai f Z ag ?_
   refine Al ?_
   refine Ae ?_
   refine Ab f Z λa f=> ?_
   have⟨ar,au,hd⟩:=bind_some hd
   refine Av f Z call199 (Wk.C m ae au) λav aw ax w ay m az a f=> ?_
   obtain⟨aA,rfl,rfl,aB⟩:=az
   refine Ac f Z λa f=>Au ?_
   refine Ab f Z λa f=> ?_
   have⟨aC,aD,hd⟩:=bind_some hd
   refine Av f Z call199 (Wk.C m aB aD) λaE aF aG w aH m aI a f=> ?_
   obtain⟨aJ,rfl,rfl,aK⟩:=aI
   refine Ac f Z λa f=>Au ?_
   refine Ab f Z λa f=> ?_
   have⟨aL,aM,hd⟩:=bind_some hd
   refine Av f Z call199 (Wk.C m aK aM) λaN aO aP w aQ m aR a f=> ?_
   obtain⟨aS,rfl,rfl,aT⟩:=aR
   refine Ac f Z λa f=>Au ?_
   refine Ab f Z λa f=> ?_
   have⟨aU,aV,hd⟩:=bind_some hd
   refine Av f Z call199 (Wk.C m aT aV) λaW aX aY w aZ m a0 a f=> ?_
   obtain⟨a1,rfl,rfl,a2⟩:=a0
   refine Ac f Z λa f=>Au ?_
   refine Ab f Z λa f=>Ah f Z Z CX λa f=>Ab f Z λa f=>Ah f Z Z CX λa f=>Ah f Z Z Ar λa f=>Ab f Z λa f=>Ah f Z Z CX λa f=>Ah f Z Z Ar λa f=>Ab f Z λa f=>Ah f Z Z Ar λa f=>Ab f Z λa f=> ?_
   obtain⟨a3,hd⟩:=D3 hd
   refine Ah f Z Z (b_rem a3) λa f=>Ac f Z λa f=>Aa ?_
   refine Ap ?_
   obtain rfl:=sj hd
   exact⟨[(iv (Int.tmod (i64.wrap ((i64.wrap ((i64.wrap ((i64.wrap (ar.1*16777216))+(i64.wrap (aC.1*65536))))+(i64.wrap (aL.1*256))))+aU.1)) x1))],f.g Z,f.d,_,[ib b0 151 [a1,(iv aU.2.2.1),(iv aU.2.2.2)]],(gt ay (gt aH (gt aQ aZ))),m,_,Z,Z,a2⟩
theorem Wk.f {x0 x1 x2:Int}(m:Mem W G w (H)){y:Bool}(hd:D.f x0 x1 x2=some y):
  Calls prog 141 #[(iv x0),(iv x1),(iv x2)] w (Res W G H (λ_ Ho v=>Ho=[]∧v=(.bool y))):=by
 refine As (args:=[(iv x0),(iv x1),(iv x2)]) (N:=15) [.tmp 6] func141 Z Z (lb Z) Z λa f=> ?_
 unfold D.f at hd
 refine Ae ?_
 refine Ac f Z λa f=>Au ?_
 refine Ab f Z λa f=>Ab f Z λa f=>Ah f Z Z BT λa f=>Ab f Z λa f=> ?_
 refine BJ 4 (λa w=>∃aa,GLe G aa∧Mem W aa w (H)∧Fr a 15 [(0,(iv x0)),(1,(iv x1)),(2,(iv x2)),(7,(iv x0)),(8,(iv x1)),(9,(.bool (decide (x1≤x0)))),(10,(.bool (decide (x1≤x0)))),(14,(.bool ((decide (x1≤x0))&&(decide (x0≤x2)))))]) ?_ ?_
 ·rcases Bool.eq_false_or_eq_true (decide (x1≤x0)) with ab|ab
  ·refine AI f ab ?_
   refine Ab f Z λa f=>AI f ab ?_
   refine Ab f Z λa f=>AI f ab ?_
   refine Ah f Z Z Ci λa f=>l_o f (AU (f.e Z) ab (f.e Z)) λa f=> ?_
   exact⟨_,gr,m,f.weak ⟨Z,Z,Z,Z,Z,Z,Z,by rw[ab];rfl,trivial⟩⟩
  ·refine AL f ab λa f=> ?_
   refine AL f ab λa f=>AL f ab λa f=>l_o f (AV (f.e Z) ab (f.e Z)) λa f=> ?_
   exact⟨_,gr,m,f.weak ⟨Z,Z,Z,Z,Z,Z,Z,by rw[ab];rfl,trivial⟩⟩
 ·rintro a w ⟨aa,ac,m,f⟩
  refine Ac f Z λa f=>Aa ?_
  refine Ap ?_
  obtain rfl:=sj hd
  exact⟨[(.bool ((decide (x1≤x0))&&(decide (x0≤x2))))],f.g Z,f.d,_,[],ac,m,Z,Z⟩
theorem Wk.g {v0:Value}{x0:LI}(m:Mem W G w (H))(h0:R1 G v0 x0){y:(LI)}(hd:D.g x0=some y):
  Calls prog 69 #[v0] w (Res W G H (λG' Ho v=>∃r0:Value,∃i0:Itm,Ho=[i0]∧r0=v∧Ow R0 2 G' i0 r0 y)):=by
 refine As (args:=[v0]) (N:=6) [.tmp 2] func69 Z Z (lb Z) Z λa f=> ?_
 unfold D.g at hd
 refine Ae ?_
 refine Ac f Z λa f=>Au ?_
 refine AY (R:=R0) (xs:=([]:LI)) (RI.one _) m T42 f Z Z Z (by decide) (All2.nil _) λaa ab w a m ac f=>Ab f Z λa f=> ?_
 have⟨ad,ae,hd⟩:=bind_some hd
 refine Bh (RI.one _) 0 m ac Z T42 Z (by decide) f Z Z Z (h0.src m) ae λaf ag w a m ah f=>Ac f Z λa f=>Aa ?_
 refine Ap ?_
 obtain rfl:=sj hd
 exact⟨[ag],f.g Z,f.d,_,[af],gr,m,_,_,Z,Z,ah⟩
theorem Wk.n {v0:Value}{x0:LI}{x1:Int}(m:Mem W G w (H))(h0:R1 G v0 x0){y:(LI)}(hd:D.n x0 x1=some y):
  Calls prog 68 #[v0,(iv x1)] w (Res W G H (λG' Ho v=>∃r0:Value,Ho=[]∧r0=v∧R1 G' r0 y)):=by
 refine As (args:=[v0,(iv x1)]) (N:=46) [.tmp 4] func68 Z Z (lb Z) Z λa f=> ?_
 unfold D.n at hd
 refine Ae ?_
 refine Ac f Z λa f=>Au ?_
 refine Ac f Z λa f=>Aa (Af ?_)
 have⟨aa,ab,hd⟩:=bind_some hd
 refine AF (λa w=>∃ac:Int,ac=aa∧∃(ad:GH),GLe G ad∧Fr a 46 [(0,v0),(1,(iv x1)),(5,(iv ac))]∧Mem W ad w (H)) ?_ ?_
 ·refine Aj ?_
  refine AD (λae a w=>∃af:Int,af=ae∧∃(ag:GH),GLe G ag∧Fr a 46 [(0,v0),(1,(iv x1)),(5,(iv af))]∧Mem W ag w (H)) ab ⟨_,Z,_,gr,f.k Z,m⟩ ?_
  clear ab f m
  rintro ae ah ai aj a w ⟨af,rfl,ag,ak,f,m⟩
  have h0:=rd1 ak h0
  refine Af (Ae ?_)
  refine Ab f Z λa f=>Ab f Z λa f=>A5 underlying42 f Z Z h0 λa f=>Ah f Z Z AH λa f=>Ab f Z λa f=> ?_
  have⟨al,am,ai⟩:=bind_some ai
  refine BJ 7 (λa w=>∃an,GLe ag an∧Mem W an w (H)∧Fr a 46 [(0,v0),(1,(iv x1)),(5,(iv af)),(7,(iv af)),(8,v0),(9,(iv (x0.length:Int))),(10,(.bool (decide (af<(x0.length:Int))))),(11,(.bool (decide (af<(x0.length:Int))))),(18,(.bool al))]) ?_ ?_
  ·rcases Ad am with⟨ao,am⟩|⟨ao,am⟩
   ·refine AI f ao ?_
    refine Ab f Z λa f=>AI f ao ?_
    refine Ab f Z λa f=>AI f ao ?_
    have⟨ap,aq,am⟩:=bind_some am
    refine Bl T42 f Z Z Z h0 aq λar au a av aw f=> ?_
    subst aw
    refine AI f ao ?_
    refine AM m Pl2 f Z Z av λa f=>AI f ao ?_
    refine Ab f Z λa f=>AI f ao ?_
    refine Ah f Z Z AH λa f=>l_o f (AU (f.e Z) ao (f.e Z)) λa f=> ?_
    obtain rfl:=sj am
    exact⟨_,gr,m,f.k Z⟩
   ·refine AL f ao λa f=> ?_
    refine AL f ao λa f=>AL f ao λa f=>AL f ao λa f=>AL f ao λa f=>AL f ao λa f=>l_o f (AV (f.e Z) ao (f.e Z)) λa f=> ?_
    obtain rfl:=sj am
    exact⟨_,gr,m,f.k Z⟩
  ·rintro a w ⟨an,ax,m,f⟩
   refine Aa ?_
   rcases Ad ai with⟨ay,ai⟩|⟨ay,ai⟩
   ·refine Ak f Z ay ?_
    refine Al ?_
    refine Aj (Am ?_)
    refine Ab f Z λa f=>Ah f Z Z Ar λa f=>Ac f Z λa f=>Aa ?_
    obtain rfl:=sj ai
    exact⟨_,Z,_,Z,_,(gt ak ax),f.k Z,m⟩
   ·refine Ai f Z ay ?_
    refine Ax Z ?_
    obtain rfl:=sj ai
    obtain rfl:=aj _ rfl
    exact⟨_,Z,_,(gt ak ax),f.k Z,m⟩
 ·rintro a w ⟨ac,rfl,ad,az,f,m⟩
  have h0:=rd1 az h0
  refine Af (Ae ?_)
  refine Ab f Z λa f=>Ab f Z λa f=>A5 underlying42 f Z Z h0 λa f=>Ah f Z Z AH λa f=>Ab f Z λa f=> ?_
  have⟨aA,aB,hd⟩:=bind_some hd
  refine BJ 7 (λa w=>∃aC,GLe ad aC∧Mem W aC w (H)∧Fr a 46 [(0,v0),(1,(iv x1)),(5,(iv ac)),(21,(iv ac)),(22,v0),(23,(iv (x0.length:Int))),(24,(.bool (decide (ac<(x0.length:Int))))),(25,(.bool (decide (ac<(x0.length:Int))))),(32,(.bool aA))]) ?_ ?_
  ·rcases Ad aB with⟨aD,aB⟩|⟨aD,aB⟩
   ·refine AI f aD ?_
    refine Ab f Z λa f=>AI f aD ?_
    refine Ab f Z λa f=>AI f aD ?_
    have⟨aE,aF,aB⟩:=bind_some aB
    refine Bl T42 f Z Z Z h0 aF λaG aH a aI aJ f=> ?_
    subst aJ
    refine AI f aD ?_
    refine AM m Pl2 f Z Z aI λa f=>AI f aD ?_
    refine Ab f Z λa f=>AI f aD ?_
    refine Ah f Z Z Bq λa f=>l_o f (AU (f.e Z) aD (f.e Z)) λa f=> ?_
    obtain rfl:=sj aB
    exact⟨_,gr,m,f.k Z⟩
   ·refine AL f aD λa f=> ?_
    refine AL f aD λa f=>AL f aD λa f=>AL f aD λa f=>AL f aD λa f=>AL f aD λa f=>l_o f (AV (f.e Z) aD (f.e Z)) λa f=> ?_
    obtain rfl:=sj aB
    exact⟨_,gr,m,f.k Z⟩
  ·rintro a w ⟨aC,aK,m,f⟩
   have h0:=rd1 aK h0
   refine Aa ?_
   rcases Ad hd with⟨aL,hd⟩|⟨aL,hd⟩
   ·refine Ak f Z aL ?_
    refine Ae ?_
    refine Ab f Z λa f=>Ac f Z λa f=>Aa ?_
    refine Ap ?_
    obtain rfl:=sj hd
    exact⟨[v0],f.g Z,f.d,_,[],(gt az aK),m,_,Z,Z,h0⟩
   ·refine Ai f Z aL ?_
    refine Al ?_
    refine Ae ?_
    refine Ab f Z λa f=>Ab f Z λa f=> ?_
    have⟨aM,aN,hd⟩:=bind_some hd
    refine FZ T42 f Z Z h0 (.inl ⟨Z,Z⟩) (.inr ⟨_,_,Z,Z⟩) aN λaO a aP f=> ?_
    have⟨aQ,aR,hd⟩:=bind_some hd
    refine Av f Z call69 (Wk.g m aP aR) λaS aT aU w aV m aW a f=> ?_
    obtain⟨aX,aY,rfl,rfl,aZ⟩:=aW
    have h0:=rd1 aV h0
    refine Ab f Z λa f=>AY (R:=R0) (xs:=([x1]:LI)) (RI.one _) m T42 f Z Z Z (by decide) (All2.cons Z (All2.nil _)) λa0 a1 w a m a2 f=> ?_
    have⟨a3,a4,hd⟩:=bind_some hd
    refine Bh (RI.one _) 1 m aZ Z T42 Z (by decide) f Z Z Z (Ow.src (j:=0) a2 m Z) a4 λa5 a6 w a m a7 f=>Ac f Z λa f=>Au ?_
    refine Ab f Z λa f=>Ab f Z λa f=>Ab f Z λa f=> ?_
    have⟨a8,a9,hd⟩:=bind_some hd
    refine FZ T42 f Z Z h0 (.inr ⟨_,_,Z,Z⟩) (.inl ⟨Z,Z⟩) a9 λba a bb f=> ?_
    have⟨bc,bd,hd⟩:=bind_some hd
    refine Bh (RI.one _) 1 m a7 Z T42 Z (by decide) f Z Z Z (bb.src m) bd λbe bf w a m bg f=>Ac f Z λa f=>Aa ?_
    refine Ap ?_
    have m:=m.fr 1
    obtain⟨bh,bi,m,bj⟩:=Ow.stamp (RI.mono _) bg m
    have m:Mem W bh w H:=Mem.drop (H':=[a0]) m
    obtain rfl:=sj hd
    exact⟨[bf],f.g Z,f.d,_,[],(gt az (gt aK (gt aV bi))),m,_,Z,Z,bj⟩
theorem Wk.q {aa:Value}{ab:Itm}{ac:LL}{x1 x2:Int}(m:Mem W G w (ab::H))(ad:Ow R1 42 G ab aa ac){y:(LL)}(hd:D.q ac x1 x2=some y):
  Calls prog 143 #[(.agg #[aa]),(iv x1),(iv x2)] w (Res W G H (λG' Ho v=>∃i0:Itm,Ho=[i0]∧v=(.agg #[aa])∧Ow R1 42 G' i0 aa y)):=by
 refine As (args:=[(.agg #[aa]),(iv x1),(iv x2)]) (N:=30) [.cell 6 30] func143 Z Z (lb Z) Z λa f=> ?_
 unfold D.q at hd
 refine Ae ?_
 refine By (cs:=[aa]) m f Z Z Z λae w a m f=>Bm (cs:=[sn]) zeroValue30 m f Z Z λaf w a m f=>Aa (Af ?_)
 refine A3 11 Ay (by kernel_rfl) m ?_
 refine B9 0 11 underlying30 Z sizeOf22 Z f Z λa f=>BQ 1 11 1 Bd Z Z Z f Z λa f=>Ag 2 11 Z f Z λa f=>B9 3 11 underlying30 Z sizeOf22 Z f Z λa f=>BQ 4 11 1 Bd Z Z Z f Z λa f=>Ag 5 11 Z f Z λa f=> ?_
 have⟨ag,ah,hd⟩:=bind_some hd
 refine AG 6 11 2 m ad T22 ah Z f Z Z λai a aj f=>AR 7 11 2 ad AZ aj ah Z f Z λak a al f=>Ag 8 11 Z f Z λa f=>Bi 9 Z λam w an m ao ao=> ?_
 have al:=rd1 an al
 have ad:=Ow.mono (RSl.mono (RI.mono _)) an ad
 have⟨ap,aq,hd⟩:=bind_some hd
 refine Av f Z call68 (Wk.n m al aq) λar au av w aw m ax a f=> ?_
 obtain⟨ay,rfl,rfl,az⟩:=ax
 have ad:=Ow.mono (RSl.mono (RI.mono _)) aw ad
 refine Aa ?_
 refine ao au [] _ _ aw m ?_
 have⟨aA,aB,hd⟩:=bind_some hd
 refine AG 10 11 2 m ad T22 aB Z f Z Z λaC a aD f=>AK λaE w aF m=> ?_
 have az:=rd1 aF az
 have ad:=Ow.mono (RSl.mono (RI.mono _)) aF ad
 refine Aw 2 m ad Z sizeOf42 f Z Z aD aB az.cells az.one1 az λaG w m aH=>Aa (Af ?_)
 refine A3 11 Ay (by kernel_rfl) m ?_
 refine B9 0 11 underlying30 Z sizeOf22 Z f Z λa f=>BQ 1 11 1 Bd Z Z Z f Z λa f=>Ag 2 11 Z f Z λa f=>B9 3 11 underlying30 Z sizeOf22 Z f Z λa f=>BQ 4 11 1 Bd Z Z Z f Z λa f=>Ag 5 11 Z f Z λa f=> ?_
 have⟨aI,aJ,hd⟩:=bind_some hd
 refine AG 6 11 2 m aH T22 aJ Z f Z Z λaK a aL f=>AR 7 11 2 aH AZ aL aJ Z f Z λaM a aN f=>Ag 8 11 Z f Z λa f=>Bi 9 Z λaO w aP m aQ aQ=> ?_
 have aN:=rd1 aP aN
 have aH:=Ow.mono (RSl.mono (RI.mono _)) aP aH
 have⟨aR,aS,hd⟩:=bind_some hd
 refine Av f Z call68 (Wk.n m aN aS) λaT aU aV w aW m aX a f=> ?_
 obtain⟨aY,rfl,rfl,aZ⟩:=aX
 have aH:=Ow.mono (RSl.mono (RI.mono _)) aW aH
 refine Aa ?_
 refine aQ aU [] _ _ aW m ?_
 have⟨a0,a1,hd⟩:=bind_some hd
 refine AG 10 11 2 m aH T22 a1 Z f Z Z λa2 a a3 f=>AK λa4 w a5 m=> ?_
 have aZ:=rd1 a5 aZ
 have aH:=Ow.mono (RSl.mono (RI.mono _)) a5 aH
 refine Aw 2 m aH Z sizeOf42 f Z Z a3 a1 aZ.cells aZ.one1 aZ λa6 w m a7=>Au ?_
 refine AT 1 0 (ds:=[aa]) m A8 f Z Z Z Z Z λa f=>AE 0 0 (ds:=[aa]) m sizeOf30 f Z Z Z (AC (Ow.one1 2 m a7 Z) AN) Z (lb Z) Z λw m=>Aa ?_
 refine Ap ?_
 have a8:=BE (P:=prog) 0 m A8 f (s:=6) rfl rfl rfl
 have m:=m.fr 2
 have m:=m.eraseAt 2
 have m:=m.eraseAt 1
 obtain rfl:=sj hd
 exact⟨[(.agg #[aa])],⟨a8,trivial⟩,f.d,_,[a6],(gt an (gt aw (gt aF (gt aP (gt aW a5))))),m,_,Z,Z,a7⟩
theorem Wk.v {aa:Value}{b0:Nat}{ab:LI}{ac ad x1:Int}(m:Mem W G w (ib b0 151 [aa,(iv ac),(iv ad)]::H))(ae:RSl (RI .u8) G aa ab){y:Bool×(LI)×Int×Int}(hd:D.v ab ac ad x1=some y):
  Calls prog 137 #[(pb b0),(iv x1)] w (Res W G H (λG' Ho v=>∃r0:Value,Ho=[ib b0 151 [r0,(iv y.2.2.1),(iv y.2.2.2)]]∧v=(.bool y.1)∧RSl (RI .u8) G' r0 y.2.1)):=by
 refine As (args:=[(pb b0),(iv x1)]) (N:=9) [.tmp 4] func137 Z Z (lb Z) Z λa f=> ?_
 unfold D.v at hd
 refine Ae ?_
 refine Ac f Z λa f=>Au ?_
 refine Ab f Z λa f=>Ab f Z λa f=> ?_
 have⟨af,ag,hd⟩:=bind_some hd
 refine Av f Z call174 (Wk.d m ae ag) λah ai aj w ak m al a f=> ?_
 obtain⟨am,rfl,rfl,an⟩:=al
 refine Ah f Z Z Bq λa f=>Ac f Z λa f=>Aa ?_
 refine Ap ?_
 obtain rfl:=sj hd
 exact⟨[(.bool (af.1==0))],f.g Z,f.d,_,[ib b0 151 [am,(iv af.2.2.1),(iv af.2.2.2)]],ak,m,_,Z,Z,an⟩
theorem Wk.l1 {aa:Value}{b0:Nat}{ab:LI}{ac ad:Int}(m:Mem W G w (ib b0 151 [aa,(iv ac),(iv ad)]::H))(ae:RSl (RI .u8) G aa ab){y:Int×(LI)×Int×Int}(hd:D.l1 ab ac ad=some y):
  Calls prog 200 #[(pb b0)] w (Res W G H (λG' Ho v=>∃r0:Value,Ho=[ib b0 151 [r0,(iv y.2.2.1),(iv y.2.2.2)]]∧v=(iv y.1)∧RSl (RI .u8) G' r0 y.2.1)):=by
 refine As (args:=[(pb b0)]) (N:=8) [.tmp 2] func200 Z Z (lb Z) Z λa f=> ?_
 unfold D.l1 at hd
 refine Ae ?_
 refine Ac f Z λa f=>Au ?_
 refine AY (R:=R0) (xs:=([(-1),0,1,2147483648,(-2147483648),1099511627776,4611686018427387904,(-4611686018427387904),9223372036854775807,(-9223372036854775808)]:LI)) (RI.one _) m T42 f Z Z Z (by decide) (All2.cons Z (All2.cons Z (All2.cons Z (All2.cons Z (All2.cons Z (All2.cons Z (All2.cons Z (All2.cons Z (All2.cons Z (All2.cons Z (All2.nil _))))))))))) λaf ag w a m ah f=>Ab f Z λa f=> ?_
 have m:=m.fr 1
 have⟨ai,aj,hd⟩:=bind_some hd
 refine Av f Z call174 (Wk.d m ae aj) λak al am w an m ao a f=> ?_
 obtain⟨ap,rfl,rfl,aq⟩:=ao
 have ah:=od1 an ah
 have⟨ar,au,hd⟩:=bind_some hd
 refine A6 1 m ah Z T42 f Z Z Z au λav a aw f=>BU 1 m ah Z Pl2 f Z Z aw au λax a ay f=> ?_
 subst ay
 refine Ac f Z λa f=>Aa ?_
 refine Ap ?_
 have m:=m.eraseAt 1
 obtain rfl:=sj hd
 exact⟨[(iv ar)],f.g Z,f.d,_,[ib b0 151 [ap,(iv ai.2.2.1),(iv ai.2.2.2)]],an,m,_,Z,Z,aq⟩
theorem Wk.k0 {x0 x1:Int}(m:Mem W G w (H)){y:Int}(hd:D.k0 x0 x1=some y):
  Calls prog 112 #[(iv x0),(iv x1)] w (Res W G H (λ_ Ho v=>Ho=[]∧v=(iv y))):=by
 refine As (args:=[(iv x0),(iv x1)]) (N:=10) [.tmp 4] func112 Z Z (lb Z) Z λa f=> ?_
 unfold D.k0 at hd
 refine Ae ?_
 refine Ac f Z λa f=>Aa (Af (Ae ?_))
 refine Ab f Z λa f=>Ab f Z λa f=>Ah f Z Z AH λa f=>Aa ?_
 rcases Ad hd with⟨aa,hd⟩|⟨aa,hd⟩
 ·refine Ak f Z aa ?_
  refine Ae ?_
  refine Ab f Z λa f=>Ac f Z λa f=>Aa ?_
  refine Ap ?_
  obtain rfl:=sj hd
  exact⟨[(iv x0)],f.g Z,f.d,_,[],gr,m,Z,Z⟩
 ·refine Ai f Z aa ?_
  refine Al ?_
  refine Ae ?_
  refine Ab f Z λa f=>Ac f Z λa f=>Aa ?_
  refine Ap ?_
  obtain rfl:=sj hd
  exact⟨[(iv x1)],f.g Z,f.d,_,[],gr,m,Z,Z⟩
theorem Wk.o0 {aa:Value}{b0:Nat}{ab:LI}{ac ad x1:Int}(m:Mem W G w (ib b0 151 [aa,(iv ac),(iv ad)]::H))(ae:RSl (RI .u8) G aa ab){y:Int×(LI)×Int×Int}(hd:D.o0 ab ac ad x1=some y):
  Calls prog 175 #[(pb b0),(iv x1)] w (Res W G H (λG' Ho v=>∃r0:Value,Ho=[ib b0 151 [r0,(iv y.2.2.1),(iv y.2.2.2)]]∧v=(iv y.1)∧RSl (RI .u8) G' r0 y.2.1)):=by
 refine As (args:=[(pb b0),(iv x1)]) (N:=28) [.tmp 4] func175 Z Z (lb Z) Z λa f=> ?_
 unfold D.o0 at hd
 refine Ae ?_
 refine Ac f Z λa f=>Aa (Af (Ae ?_))
 refine Ab f Z λa f=> ?_
 have⟨af,ag,hd⟩:=bind_some hd
 refine Av f Z call137 (Wk.v m ae ag) λah ai aj w ak m al a f=> ?_
 obtain⟨am,rfl,rfl,an⟩:=al
 refine Aa ?_
 rcases Ad hd with⟨ao,hd⟩|⟨ao,hd⟩
 ·refine Ak f Z ao ?_
  refine Ae ?_
  refine Ab f Z λa f=>Ab f Z λa f=>Ah f Z Z Ar λa f=>Ab f Z λa f=> ?_
  have⟨ap,aq,hd⟩:=bind_some hd
  refine Av f Z call200 (Wk.l1 m an aq) λar au av w aw m ax a f=> ?_
  obtain⟨ay,rfl,rfl,az⟩:=ax
  refine AY (R:=R0) (xs:=([(-1),x1,(i64.wrap (x1+1)),ap.1]:LI)) (RI.one _) m T42 f Z Z Z (by decide) (All2.cons Z (All2.cons Z (All2.cons Z (All2.cons Z (All2.nil _))))) λaA aB w a m aC f=>Ab f Z λa f=> ?_
  have m:=m.fr 1
  have⟨aD,aE,hd⟩:=bind_some hd
  refine Av f Z call174 (Wk.d m az aE) λaF aG aH w aI m aJ a f=> ?_
  obtain⟨aK,rfl,rfl,aL⟩:=aJ
  have aC:=od1 aI aC
  have⟨aM,aN,hd⟩:=bind_some hd
  refine A6 1 m aC Z T42 f Z Z Z aN λaO a aP f=>BU 1 m aC Z Pl2 f Z Z aP aN λaQ a aR f=> ?_
  subst aR
  refine Ac f Z λa f=>Aa ?_
  refine Ap ?_
  have m:=m.eraseAt 1
  obtain rfl:=sj hd
  exact⟨[(iv aM)],f.g Z,f.d,_,[ib b0 151 [aK,(iv aD.2.2.1),(iv aD.2.2.2)]],(gt ak (gt aw aI)),m,_,Z,Z,aL⟩
 ·refine Ai f Z ao ?_
  refine Al ?_
  refine Af (Ae ?_)
  refine Ab f Z λa f=> ?_
  have⟨aS,aT,hd⟩:=bind_some hd
  refine Av f Z call137 (Wk.v m an aT) λaU aV aW w aX m aY a f=> ?_
  obtain⟨aZ,rfl,rfl,a0⟩:=aY
  refine Aa ?_
  rcases Ad hd with⟨a1,hd⟩|⟨a1,hd⟩
  ·refine Ak f Z a1 ?_
   refine Ae ?_
   refine Ab f Z λa f=>Ab f Z λa f=> ?_
   have⟨a2,a3,hd⟩:=bind_some hd
   refine Bf f Z call112 (Wk.k0 m a3) λa4 w a5 m a f=> ?_
   have a0:=rd1 a5 a0
   refine Ah f Z Z Ar λa f=> ?_
   have⟨a6,a7,hd⟩:=bind_some hd
   refine Av f Z call174 (Wk.d m a0 a7) λa8 a9 ba w bb m bc a f=> ?_
   obtain⟨bd,rfl,rfl,be⟩:=bc
   refine Ac f Z λa f=>Aa ?_
   refine Ap ?_
   obtain rfl:=sj hd
   exact⟨[(iv a6.1)],f.g Z,f.d,_,[ib b0 151 [bd,(iv a6.2.2.1),(iv a6.2.2.2)]],(gt ak (gt aX (gt a5 bb))),m,_,Z,Z,be⟩
  ·refine Ai f Z a1 ?_
   refine Al ?_
   refine Ae ?_
   refine Ab f Z λa f=>Ab f Z λa f=>Ah f Z Z Ar λa f=> ?_
   have⟨bf,bg,hd⟩:=bind_some hd
   refine Av f Z call174 (Wk.d m a0 bg) λbh bi bj w bk m bl a f=> ?_
   obtain⟨bm,rfl,rfl,bn⟩:=bl
   refine Ac f Z λa f=>Aa ?_
   refine Ap ?_
   obtain rfl:=sj hd
   exact⟨[(iv bf.1)],f.g Z,f.d,_,[ib b0 151 [bm,(iv bf.2.2.1),(iv bf.2.2.2)]],(gt ak (gt aX bk)),m,_,Z,Z,bn⟩
theorem Wk.n1 {v0:Value}{it0:Itm}{x0:LI}{x1:Int}(m:Mem W G w (it0::H))(o0:Ow R0 2 G it0 v0 x0){y:(LI)}(hd:D.n1 x0 x1=some y):
  Calls prog 68 #[v0,(iv x1)] w (Res W G H (λG' Ho v=>∃r0:Value,∃i0:Itm,Ho=[i0]∧r0=v∧Ow R0 2 G' i0 r0 y)):=by
 refine As (args:=[v0,(iv x1)]) (N:=46) [.tmp 4] func68 Z Z (lb Z) Z λa f=> ?_
 unfold D.n1 at hd
 refine Ae ?_
 refine Ac f Z λa f=>Au ?_
 refine Ac f Z λa f=>Aa (Af ?_)
 have⟨aa,ab,hd⟩:=bind_some hd
 refine AF (λa w=>∃ac:Int,ac=aa∧∃(ad:GH),GLe G ad∧Fr a 46 [(0,v0),(1,(iv x1)),(5,(iv ac))]∧Mem W ad w (it0::H)) ?_ ?_
 ·refine Aj ?_
  refine AD (λae a w=>∃af:Int,af=ae∧∃(ag:GH),GLe G ag∧Fr a 46 [(0,v0),(1,(iv x1)),(5,(iv af))]∧Mem W ag w (it0::H)) ab ⟨_,Z,_,gr,f.k Z,m⟩ ?_
  clear ab f m
  rintro ae ah ai aj a w ⟨af,rfl,ag,ak,f,m⟩
  have o0:=od1 ak o0
  refine Af (Ae ?_)
  refine Ab f Z λa f=>Ab f Z λa f=>Bv 0 m o0 Z underlying42 f Z Z λa f=>Ah f Z Z AH λa f=>Ab f Z λa f=> ?_
  have⟨al,am,ai⟩:=bind_some ai
  refine BJ 7 (λa w=>∃an,GLe ag an∧Mem W an w (it0::H)∧Fr a 46 [(0,v0),(1,(iv x1)),(5,(iv af)),(7,(iv af)),(8,v0),(9,(iv (x0.length:Int))),(10,(.bool (decide (af<(x0.length:Int))))),(11,(.bool (decide (af<(x0.length:Int))))),(18,(.bool al))]) ?_ ?_
  ·rcases Ad am with⟨ao,am⟩|⟨ao,am⟩
   ·refine AI f ao ?_
    refine Ab f Z λa f=>AI f ao ?_
    refine Ab f Z λa f=>AI f ao ?_
    have⟨ap,aq,am⟩:=bind_some am
    refine A6 0 m o0 Z T42 f Z Z Z aq λar a au f=>AI f ao ?_
    refine BU 0 m o0 Z Pl2 f Z Z au aq λav a aw f=> ?_
    subst aw
    refine AI f ao ?_
    refine Ab f Z λa f=>AI f ao ?_
    refine Ah f Z Z AH λa f=>l_o f (AU (f.e Z) ao (f.e Z)) λa f=> ?_
    obtain rfl:=sj am
    exact⟨_,gr,m,f.k Z⟩
   ·refine AL f ao λa f=> ?_
    refine AL f ao λa f=>AL f ao λa f=>AL f ao λa f=>AL f ao λa f=>AL f ao λa f=>l_o f (AV (f.e Z) ao (f.e Z)) λa f=> ?_
    obtain rfl:=sj am
    exact⟨_,gr,m,f.k Z⟩
  ·rintro a w ⟨an,ax,m,f⟩
   refine Aa ?_
   rcases Ad ai with⟨ay,ai⟩|⟨ay,ai⟩
   ·refine Ak f Z ay ?_
    refine Al ?_
    refine Aj (Am ?_)
    refine Ab f Z λa f=>Ah f Z Z Ar λa f=>Ac f Z λa f=>Aa ?_
    obtain rfl:=sj ai
    exact⟨_,Z,_,Z,_,(gt ak ax),f.k Z,m⟩
   ·refine Ai f Z ay ?_
    refine Ax Z ?_
    obtain rfl:=sj ai
    obtain rfl:=aj _ rfl
    exact⟨_,Z,_,(gt ak ax),f.k Z,m⟩
 ·rintro a w ⟨ac,rfl,ad,az,f,m⟩
  have o0:=od1 az o0
  refine Af (Ae ?_)
  refine Ab f Z λa f=>Ab f Z λa f=>Bv 0 m o0 Z underlying42 f Z Z λa f=>Ah f Z Z AH λa f=>Ab f Z λa f=> ?_
  have⟨aA,aB,hd⟩:=bind_some hd
  refine BJ 7 (λa w=>∃aC,GLe ad aC∧Mem W aC w (it0::H)∧Fr a 46 [(0,v0),(1,(iv x1)),(5,(iv ac)),(21,(iv ac)),(22,v0),(23,(iv (x0.length:Int))),(24,(.bool (decide (ac<(x0.length:Int))))),(25,(.bool (decide (ac<(x0.length:Int))))),(32,(.bool aA))]) ?_ ?_
  ·rcases Ad aB with⟨aD,aB⟩|⟨aD,aB⟩
   ·refine AI f aD ?_
    refine Ab f Z λa f=>AI f aD ?_
    refine Ab f Z λa f=>AI f aD ?_
    have⟨aE,aF,aB⟩:=bind_some aB
    refine A6 0 m o0 Z T42 f Z Z Z aF λaG a aH f=>AI f aD ?_
    refine BU 0 m o0 Z Pl2 f Z Z aH aF λaI a aJ f=> ?_
    subst aJ
    refine AI f aD ?_
    refine Ab f Z λa f=>AI f aD ?_
    refine Ah f Z Z Bq λa f=>l_o f (AU (f.e Z) aD (f.e Z)) λa f=> ?_
    obtain rfl:=sj aB
    exact⟨_,gr,m,f.k Z⟩
   ·refine AL f aD λa f=> ?_
    refine AL f aD λa f=>AL f aD λa f=>AL f aD λa f=>AL f aD λa f=>AL f aD λa f=>l_o f (AV (f.e Z) aD (f.e Z)) λa f=> ?_
    obtain rfl:=sj aB
    exact⟨_,gr,m,f.k Z⟩
  ·rintro a w ⟨aC,aK,m,f⟩
   have o0:=od1 aK o0
   refine Aa ?_
   rcases Ad hd with⟨aL,hd⟩|⟨aL,hd⟩
   ·refine Ak f Z aL ?_
    refine Ae ?_
    refine Ab f Z λa f=>Ac f Z λa f=>Aa ?_
    refine Ap ?_
    obtain rfl:=sj hd
    exact⟨[v0],f.g Z,f.d,_,[it0],(gt az aK),m,_,_,Z,Z,o0⟩
   ·refine Ai f Z aL ?_
    refine Al ?_
    refine Ae ?_
    refine Ab f Z λa f=>Ab f Z λa f=> ?_
    obtain⟨aM,aN,m,aO⟩:=Ow.stamp (RI.mono _) o0 m
    have⟨aP,aQ,hd⟩:=bind_some hd
    refine FZ T42 f Z Z aO (.inl ⟨Z,Z⟩) (.inr ⟨_,_,Z,Z⟩) aQ λaR a aS f=> ?_
    have⟨aT,aU,hd⟩:=bind_some hd
    refine Av f Z call69 (Wk.g m aS aU) λaV aW aX w aY m aZ a f=> ?_
    obtain⟨a0,a1,rfl,rfl,a2⟩:=aZ
    have aO:=rd1 aY aO
    refine Ab f Z λa f=>AY (R:=R0) (xs:=([x1]:LI)) (RI.one _) m T42 f Z Z Z (by decide) (All2.cons Z (All2.nil _)) λa3 a4 w a m a5 f=> ?_
    have⟨a6,a7,hd⟩:=bind_some hd
    refine Bh (RI.one _) 1 m a2 Z T42 Z (by decide) f Z Z Z (Ow.src (j:=0) a5 m Z) a7 λa8 a9 w a m ba f=>Ac f Z λa f=>Au ?_
    refine Ab f Z λa f=>Ab f Z λa f=>Ab f Z λa f=> ?_
    have⟨bb,bc,hd⟩:=bind_some hd
    refine FZ T42 f Z Z aO (.inr ⟨_,_,Z,Z⟩) (.inl ⟨Z,Z⟩) bc λbd a be f=> ?_
    have⟨bf,bg,hd⟩:=bind_some hd
    refine Bh (RI.one _) 1 m ba Z T42 Z (by decide) f Z Z Z (be.src m) bg λbh bi w a m bj f=>Ac f Z λa f=>Aa ?_
    refine Ap ?_
    have m:=m.fr 1
    have m:=m.eraseAt 1
    obtain rfl:=sj hd
    exact⟨[bi],f.g Z,f.d,_,[bh],(gt az (gt aK (gt aN aY))),m,_,_,Z,Z,bj⟩
theorem Wk.U {x0:Int}(m:Mem W G w (H)){y:(LL)}(hd:D.U x0=some y):
  Calls prog 142 #[(iv x0)] w (Res W G H (λG' Ho v=>∃r0:Value,∃i0:Itm,Ho=[i0]∧v=(.agg #[r0])∧Ow2 R0 42 2 G' i0 r0 y)):=by
 refine As (args:=[(iv x0)]) (N:=18) [.cell 2 30] func142 Z Z (lb Z) Z λa f=> ?_
 unfold D.U at hd
 refine Ae ?_
 refine Bm (cs:=[sn]) zeroValue30 m f Z Z λaa w a m f=>Au ?_
 have ab:∀w,(Instr.build 30 #[]).run prog w= .ok (.agg #[sn]) w:=by intro w;simp[Instr.build,Instr.fill,Cr,Ch,BV,B7,BS,Cs]
 refine CZ f Z Z ab λa f=>Bm (cs:=[sn]) zeroValue30 m f Z Z λac w a m f=>AE 0 0 (ds:=[sn]) m sizeOf30 f Z Z Z (AC Z AN) Z (lb Z) Z λw m=>Aa (Af (Ae ?_))
 refine Ac f Z λa f=>Aa ?_
 obtain⟨ad,m,ae⟩:=Ow2.nil R0 42 2 m
 have⟨af,ag,hd⟩:=bind_some hd
 refine AF (λa w=>∃ah:LL,ah=af∧∃(ai:GH) (aj:Value) (ak:Itm),GLe G ai∧Fr a 18 [(2,(pb aa)),(3,(pb ac))]∧Mem W ai w (ib aa 30 [sn]::ib ac 30 [aj]::ak::H)∧Ow2 R0 42 2 ai ak aj ah) ?_ ?_
 ·refine Aj ?_
  have m:=m.fr 1
  have m:=m.fr 2
  refine AD (λal a w=>∃am:Int,∃an:LL,(am,an)=al∧∃(ao:GH) (ap:Value) (aq:Itm),GLe G ao∧Fr a 18 [(0,(iv x0)),(2,(pb aa)),(3,(pb ac)),(4,(iv am))]∧Mem W ao w (ib aa 30 [sn]::ib ac 30 [ap]::aq::H)∧Ow2 R0 42 2 ao aq ap an) ag ⟨_,_,Z,_,sn,ad,gr,f.k Z,m,ae⟩ ?_
  clear ag f m
  rintro al ar au av a w ⟨am,an,rfl,ao,ap,aq,aw,f,m,ax⟩
  refine Af (Ae ?_)
  refine Ab f Z λa f=>Ab f Z λa f=>Ah f Z Z AH λa f=>Aa ?_
  rcases Ad au with⟨ay,au⟩|⟨ay,au⟩
  ·refine Ak f Z ay ?_
   refine Al ?_
   refine Af (Aj (Am ?_))
   refine Bu underlying30 Z sizeOf22 f Z λa f=>AJ 1 0 m Bd f Z Z Z Z λa f=>AY (R:=R0) (xs:=([]:LI)) (RI.one _) m T42 f Z Z Z (by decide) (All2.nil _) λaz aA w a m aB f=>AY (R:=RawS) (xs:=[aA]) RawS.one m T22 f Z Z Z (by decide) (All2.cons ⟨Z,Ow.one1 0 m aB Z,Ow.cells 0 m aB Z⟩ (All2.nil _)) λaC aD w a m aE f=> ?_
   have m:=m.fr 1
   have m:Mem W ao w (aq::az::aC::ib aa 30 [sn]::ib ac 30 [ap]::H):=m.fr 4
   have⟨aF,aG,au⟩:=bind_some au
   refine EW m ax aB aE T22 Z (by decide) f Z Z Z aG λaH aI w a m aJ f=>Bu underlying30 Z sizeOf22 f Z λa f=>AE 2 0 (ds:=[aI]) m sizeOf22 f Z Z (Ow2.cells 0 m aJ Z) (AC (Ow2.one1 0 m aJ Z) AN) Z (lb Z) Z λw m=>Aa (Am ?_)
   refine Ab f Z λa f=>Ah f Z Z Ar λa f=>Ac f Z λa f=>Aa ?_
   have m:=m.fr 2
   have m:=m.fr 2
   obtain rfl:=sj au
   exact⟨_,Z,_,_,Z,_,aI,aH,aw,f.k Z,m,aJ⟩
  ·refine Ai f Z ay ?_
   refine Ax Z ?_
   obtain rfl:=sj au
   obtain rfl:=av _ rfl
   exact⟨_,Z,_,ap,aq,aw,f.k Z,m,ax⟩
 ·rintro a w ⟨ah,rfl,ai,aj,ak,aK,f,m,aL⟩
  refine Ae ?_
  refine AT 1 0 (ds:=[aj]) m A8 f Z Z Z Z Z λa f=>AE 0 0 (ds:=[aj]) m sizeOf30 f Z Z Z (AC (Ow2.one1 2 m aL Z) AN) Z (lb Z) Z λw m=>Aa ?_
  refine Ap ?_
  have aM:=BE (P:=prog) 0 m A8 f (s:=2) rfl rfl rfl
  have m:=m.fr 2
  have m:=m.eraseAt 2
  have m:=m.eraseAt 1
  obtain rfl:=sj hd
  exact⟨[(.agg #[aj])],⟨aM,trivial⟩,f.d,_,[ak],aK,m,_,_,Z,Z,aL⟩
theorem Wk.j0 {aa:Value}{ab:Itm}{ac:LL}{x1 x2:Int}(m:Mem W G w (ab::H))(ad:Ow2 R0 42 2 G ab aa ac){y:(LL)}(hd:D.j0 ac x1 x2=some y):
  Calls prog 143 #[(.agg #[aa]),(iv x1),(iv x2)] w (Res W G H (λG' Ho v=>∃i0:Itm,Ho=[i0]∧v=(.agg #[aa])∧Ow2 R0 42 2 G' i0 aa y)):=by
 refine As (args:=[(.agg #[aa]),(iv x1),(iv x2)]) (N:=30) [.cell 6 30] func143 Z Z (lb Z) Z λa f=> ?_
 unfold D.j0 at hd
 refine Ae ?_
 refine By (cs:=[aa]) m f Z Z Z λae w a m f=>Bm (cs:=[sn]) zeroValue30 m f Z Z λaf w a m f=>Aa (Af ?_)
 have m:=m.fr 2
 refine F4 [ab] (ib af 30 [sn]::ib ae 30 [aa]::H) 10 Ay (by kernel_rfl) m ?_
 refine B9 0 10 underlying30 Z sizeOf22 Z f Z λa f=>BQ 1 10 1 Bd Z Z Z f Z λa f=>Ag 2 10 Z f Z λa f=>B9 3 10 underlying30 Z sizeOf22 Z f Z λa f=>BQ 4 10 1 Bd Z Z Z f Z λa f=>Ag 5 10 Z f Z λa f=>Ag 8 10 Z f Z λa f=>Bi 6 Z λag w ah m ai ai=> ?_
 have ad:=od2 ah ad
 have⟨aj,ak,hd⟩:=bind_some hd
 refine Dy 0 m ad Z T22 f Z Z Z ak λal a am f=>Aa ?_
 refine ai ag [ab] _ _ gr m ?_
 refine Bi 7 Z λan w ao m ap ap=> ?_
 have ad:=od2 ao ad
 refine CO 0 m ad Z AZ f Z Z am ak λaq a ar f=>Aa ?_
 refine ap an [ab] _ _ gr m ?_
 refine Bi 9 Z λau w av m aw aw=> ?_
 have ad:=od2 av ad
 obtain⟨ax,ay,m,az,aA⟩:=Ow2.out ad m ak ar
 have m:=m.fr 1
 have⟨aB,aC,hd⟩:=bind_some hd
 refine Av f Z call68 (Wk.n1 m aA aC) λaD aE aF w aG m aH a f=> ?_
 obtain⟨aI,aJ,rfl,rfl,aK⟩:=aH
 have az:=OwH.mono (RI.mono _) aG az
 refine Aa ?_
 refine aw aE [aJ,ax] _ _ aG m ?_
 refine AK λaL w aM m=> ?_
 have aK:=od1 aM aK
 have az:=OwH.mono (RI.mono _) aM az
 have⟨aN,aO,hd⟩:=bind_some hd
 refine Dk 1 m az Z T22 f Z Z Z aO λaP a aQ f=> ?_
 have m:=m.fr 1
 refine CB m az aK sizeOf42 f Z Z aQ λaR w m aS=>Aa (Af ?_)
 refine F4 [aR] (ib af 30 [sn]::ib ae 30 [aa]::H) 10 Ay (by kernel_rfl) m ?_
 refine B9 0 10 underlying30 Z sizeOf22 Z f Z λa f=>BQ 1 10 1 Bd Z Z Z f Z λa f=>Ag 2 10 Z f Z λa f=>B9 3 10 underlying30 Z sizeOf22 Z f Z λa f=>BQ 4 10 1 Bd Z Z Z f Z λa f=>Ag 5 10 Z f Z λa f=>Ag 8 10 Z f Z λa f=>Bi 6 Z λaT w aU m aV aV=> ?_
 have aS:=od2 aU aS
 have⟨aW,aX,hd⟩:=bind_some hd
 refine Dy 0 m aS Z T22 f Z Z Z aX λaY a aZ f=>Aa ?_
 refine aV aT [aR] _ _ gr m ?_
 refine Bi 7 Z λa0 w a1 m a2 a2=> ?_
 have aS:=od2 a1 aS
 refine CO 0 m aS Z AZ f Z Z aZ aX λa3 a a4 f=>Aa ?_
 refine a2 a0 [aR] _ _ gr m ?_
 refine Bi 9 Z λa5 w a6 m a7 a7=> ?_
 have aS:=od2 a6 aS
 obtain⟨a8,a9,m,ba,bb⟩:=Ow2.out aS m aX a4
 have m:=m.fr 1
 have⟨bc,bd,hd⟩:=bind_some hd
 refine Av f Z call68 (Wk.n1 m bb bd) λbe bf bg w bh m bi a f=> ?_
 obtain⟨bj,bk,rfl,rfl,bl⟩:=bi
 have ba:=OwH.mono (RI.mono _) bh ba
 refine Aa ?_
 refine a7 bf [bk,a8] _ _ bh m ?_
 refine AK λbm w bn m=> ?_
 have bl:=od1 bn bl
 have ba:=OwH.mono (RI.mono _) bn ba
 have⟨bo,bp,hd⟩:=bind_some hd
 refine Dk 1 m ba Z T22 f Z Z Z bp λbq a br f=> ?_
 have m:=m.fr 1
 refine CB m ba bl sizeOf42 f Z Z br λbs w m bt=>Au ?_
 refine AT 2 0 (ds:=[aa]) m A8 f Z Z Z Z Z λa f=>AE 1 0 (ds:=[aa]) m sizeOf30 f Z Z Z (AC (Ow2.one1 0 m bt Z) AN) Z (lb Z) Z λw m=>Aa ?_
 refine Ap ?_
 have bu:=BE (P:=prog) 1 m A8 f (s:=6) rfl rfl rfl
 have m:=m.eraseAt 2
 have m:=m.eraseAt 1
 obtain rfl:=sj hd
 exact⟨[(.agg #[aa])],⟨bu,trivial⟩,f.d,_,[bs],(gt ah (gt ao (gt av (gt aG (gt aM (gt aU (gt a1 (gt a6 (gt bh bn))))))))),m,_,Z,Z,bt⟩
theorem Wk.X0 {x0:Int}(m:Mem W G w (H)){y:(LL)×Bool}(hd:D.X0 x0=some y):
  Calls prog 216 #[(iv x0)] w (Res W G H (λG' Ho v=>∃r0:Value,∃i0:Itm,Ho=[i0]∧v= .tuple #[(.agg #[r0]),(.bool y.2)]∧Ow2 R0 42 2 G' i0 r0 y.1)):=by
 refine As (args:=[(iv x0)]) (N:=10) [.cell 2 30,.tmp 3] func216 Z Z (lb Z) Z λa f=> ?_
 unfold D.X0 at hd
 refine Ae ?_
 refine Bm (cs:=[sn]) zeroValue30 m f Z Z λaa w a m f=>Ac f Z λa f=>Aa (Af (Ae ?_))
 refine Ab f Z λa f=> ?_
 have⟨ab,ac,hd⟩:=bind_some hd
 refine Bf f Z call141 (Wk.f m ac) λad w ae m a f=>l_o f (Bj (f.e Z)) λa f=>Aa ?_
 rcases Ad hd with⟨af,hd⟩|⟨af,hd⟩
 ·refine Ak f Z af ?_
  refine Ae ?_
  have ag:∀w,(Instr.build 30 #[]).run prog w= .ok (.agg #[sn]) w:=by intro w;simp[Instr.build,Instr.fill,Cr,Ch,BV,B7,BS,Cs]
  refine CZ f Z Z ag λa f=>AE 0 0 (ds:=[sn]) m sizeOf30 f Z Z Z (AC Z AN) Z (lb Z) Z λw m=>Ac f Z λa f=>Aa ?_
  refine Ap ?_
  obtain⟨ah,m,ai⟩:=Ow2.nil R0 42 2 m
  have aj:=BE (P:=prog) 1 m A8 f (s:=2) rfl rfl rfl
  have m:=m.eraseAt 1
  obtain rfl:=sj hd
  exact⟨[(.agg #[sn]),(.bool false)],⟨aj,f.get _ _ Z,trivial⟩,f.d,_,[ah],ae,m,_,_,Z,Z,ai⟩
 ·refine Ai f Z af ?_
  refine Al ?_
  refine Ae ?_
  refine Ab f Z λa f=> ?_
  have⟨ak,al,hd⟩:=bind_some hd
  refine Av f Z call142 (Wk.U m al) λam an ao w ap m aq a f=> ?_
  obtain⟨ar,au,rfl,rfl,av⟩:=aq
  refine AE 1 0 (ds:=[ar]) m sizeOf30 f Z Z Z (AC (Ow2.one1 0 m av Z) AN) Z (lb Z) Z λw m=>Ac f Z λa f=>Aa ?_
  refine Ap ?_
  have aw:=BE (P:=prog) 1 m A8 f (s:=2) rfl rfl rfl
  have m:=m.eraseAt 1
  obtain rfl:=sj hd
  exact⟨[(.agg #[ar]),(.bool true)],⟨aw,f.get _ _ Z,trivial⟩,f.d,_,[au],(gt ae ap),m,_,_,Z,Z,av⟩
theorem Wk.x0 {x0:Int}(m:Mem W G w (H)){y:(LL)×Bool}(hd:D.x0 x0=some y):
  Calls prog 197 #[(iv x0)] w (Res W G H (λG' Ho v=>∃r0:Value,∃i0:Itm,Ho=[i0]∧v= .tuple #[(.agg #[r0]),(.bool y.2)]∧Ow2 R0 42 2 G' i0 r0 y.1)):=by
 refine As (args:=[(iv x0)]) (N:=27) [.cell 2 30,.tmp 3] func197 Z Z (lb Z) Z λa f=> ?_
 unfold D.x0 at hd
 refine Ae ?_
 refine Bm (cs:=[sn]) zeroValue30 m f Z Z λaa w a m f=>Ac f Z λa f=>Au ?_
 refine Ab f Z λa f=> ?_
 have⟨ab,ac,hd⟩:=bind_some hd
 refine Av f Z call216 (Wk.X0 m ac) λad ae af w ag m ah a f=> ?_
 obtain⟨ai,aj,rfl,rfl,ak⟩:=ah
 refine Ab f Z λa f=>l_o f (A7 (f.e Z) Z) λa f=>l_o f (A7 (f.e Z) Z) λa f=>Bm (cs:=[sn]) zeroValue30 m f Z Z λal w a m f=>AE 0 0 (ds:=[ai]) m sizeOf30 f Z Z Z (AC (Ow2.one1 1 m ak Z) AN) Z (lb Z) Z λw m=>Ac f Z λa f=>Aa (Af (Ae ?_))
 refine Ac f Z λa f=>Aa ?_
 have⟨am,an,hd⟩:=bind_some hd
 refine AF (λa w=>∃ao:LL,ao=am∧∃(ap:GH) (aq:Itm),GLe ae ap∧Fr a 27 [(2,(pb aa)),(4,(pb al)),(5,(.bool ab.2))]∧Mem W ap w (ib aa 30 [sn]::ib al 30 [ai]::aq::H)∧Ow2 R0 42 2 ap aq ai ao) ?_ ?_
 ·refine Aj ?_
  have m:=m.fr 2
  refine AD (λar a w=>∃au:Int,∃av:LL,(au,av)=ar∧∃(aw:GH) (ax:Itm),GLe ae aw∧Fr a 27 [(0,(iv x0)),(2,(pb aa)),(4,(pb al)),(5,(.bool ab.2)),(6,(iv au))]∧Mem W aw w (ib aa 30 [sn]::ib al 30 [ai]::ax::H)∧Ow2 R0 42 2 aw ax ai av) an ⟨_,_,Z,_,aj,gr,f.k Z,m,ak⟩ ?_
  clear an f m
  rintro ar ay az aA a w ⟨au,av,rfl,aw,ax,aB,f,m,aC⟩
  refine Af (Ae ?_)
  refine Ab f Z λa f=>Ab f Z λa f=>Ah f Z Z AH λa f=>Ab f Z λa f=> ?_
  refine BJ 2 (λa w=>∃aD,GLe aw aD∧Mem W aD w (ib aa 30 [sn]::ib al 30 [ai]::ax::H)∧Fr a 27 [(0,(iv x0)),(2,(pb aa)),(4,(pb al)),(5,(.bool ab.2)),(6,(iv au)),(12,(iv au)),(13,(iv x0)),(14,(.bool (decide (au<x0)))),(15,(.bool (decide (au<x0)))),(17,(.bool ((decide (au<x0))&&ab.2)))]) ?_ ?_
  ·rcases Bool.eq_false_or_eq_true (decide (au<x0)) with aE|aE
   ·refine AI f aE ?_
    refine Ab f Z λa f=>l_o f (AU (f.e Z) aE (f.e Z)) λa f=> ?_
    exact⟨_,gr,m,f.weak ⟨Z,Z,Z,Z,Z,Z,Z,Z,Z,by rw[aE];rfl,trivial⟩⟩
   ·refine AL f aE λa f=> ?_
    refine l_o f (AV (f.e Z) aE (f.e Z)) λa f=> ?_
    exact⟨_,gr,m,f.weak ⟨Z,Z,Z,Z,Z,Z,Z,Z,Z,by rw[aE];rfl,trivial⟩⟩
  ·rintro a w ⟨aD,aF,m,f⟩
   have aC:=od2 aF aC
   refine Aa ?_
   rcases Ad az with⟨aG,az⟩|⟨aG,az⟩
   ·refine Ak f Z aG ?_
    refine Al ?_
    refine Af (Aj (Am ?_))
    refine AT 1 0 (ds:=[ai]) m A8 f Z Z Z Z Z λa f=>Ab f Z λa f=>Ah f Z Z AO λa f=>Ab f Z λa f=> ?_
    have m:=m.fr 2
    have⟨aH,aI,az⟩:=bind_some az
    refine Av f Z call143 (Wk.j0 m aC aI) λaJ aK aL w aM m aN a f=> ?_
    obtain⟨aO,rfl,rfl,aP⟩:=aN
    refine AE 2 0 (ds:=[ai]) m sizeOf30 f Z Z Z (AC (Ow2.one1 0 m aP Z) AN) Z (lb Z) Z λw m=>Aa (Am ?_)
    refine Ab f Z λa f=>Ah f Z Z Ar λa f=>Ac f Z λa f=>Aa ?_
    have m:=m.fr 2
    have m:=m.fr 2
    obtain rfl:=sj az
    exact⟨_,Z,_,_,Z,_,aO,(gt aB (gt aF aM)),f.k Z,m,aP⟩
   ·refine Ai f Z aG ?_
    refine Ax Z ?_
    obtain rfl:=sj az
    obtain rfl:=aA _ rfl
    exact⟨_,Z,_,ax,(gt aB aF),f.k Z,m,aC⟩
 ·rintro a w ⟨ao,rfl,ap,aq,aQ,f,m,aR⟩
  refine Ae ?_
  refine AT 1 0 (ds:=[ai]) m A8 f Z Z Z Z Z λa f=>Ab f Z λa f=>AE 0 0 (ds:=[ai]) m sizeOf30 f Z Z Z (AC (Ow2.one1 2 m aR Z) AN) Z (lb Z) Z λw m=>Ac f Z λa f=>Aa ?_
  refine Ap ?_
  have aS:=BE (P:=prog) 0 m A8 f (s:=2) rfl rfl rfl
  have m:=m.fr 2
  have m:=m.eraseAt 2
  have m:=m.eraseAt 1
  obtain rfl:=sj hd
  exact⟨[(.agg #[ai]),(.bool ab.2)],⟨aS,f.get _ _ Z,trivial⟩,f.d,_,[aq],(gt ag aQ),m,_,_,Z,Z,aR⟩
theorem Wk.e1 {x0:Int}(m:Mem W G w (H)){y:(LL)×Bool}(hd:D.e1 x0=some y):
  Calls prog 196 #[(iv x0)] w (Res W G H (λG' Ho v=>∃r0:Value,∃i0:Itm,Ho=[i0]∧v= .tuple #[(.agg #[r0]),(.bool y.2)]∧Ow2 R0 42 2 G' i0 r0 y.1)):=by
 refine As (args:=[(iv x0)]) (N:=22) [.cell 2 30,.tmp 3] func196 Z Z (lb Z) Z λa f=> ?_
 unfold D.e1 at hd
 refine Ae ?_
 refine Bm (cs:=[sn]) zeroValue30 m f Z Z λaa w a m f=>Ac f Z λa f=>Au ?_
 refine Ab f Z λa f=> ?_
 have⟨ab,ac,hd⟩:=bind_some hd
 refine Av f Z call197 (Wk.x0 m ac) λad ae af w ag m ah a f=> ?_
 obtain⟨ai,aj,rfl,rfl,ak⟩:=ah
 refine Ab f Z λa f=>l_o f (A7 (f.e Z) Z) λa f=>l_o f (A7 (f.e Z) Z) λa f=>Bm (cs:=[sn]) zeroValue30 m f Z Z λal w a m f=>AE 0 0 (ds:=[ai]) m sizeOf30 f Z Z Z (AC (Ow2.one1 1 m ak Z) AN) Z (lb Z) Z λw m=>Ac f Z λa f=>Aa (Af (Ae ?_))
 refine Ab f Z λa f=>l_o f (Bj (f.e Z)) λa f=>Ab f Z λa f=> ?_
 refine BJ 3 (λa w=>∃am,GLe ae am∧Mem W am w (ib al 30 [ai]::aj::ib aa 30 [sn]::H)∧Fr a 22 [(0,(iv x0)),(2,(pb aa)),(4,(pb al)),(5,(.bool ab.2)),(11,(.bool ab.2)),(12,(.bool (!ab.2))),(13,(.bool (!ab.2))),(16,(.bool ((!ab.2)||(decide (x0<3)))))]) ?_ ?_
 ·rcases Bool.eq_false_or_eq_true (!ab.2) with an|an
  ·refine AL f an λa f=> ?_
   refine AL f an λa f=>l_o f (AU (f.e Z) an (f.e Z)) λa f=> ?_
   exact⟨_,gr,m,f.weak ⟨Z,Z,Z,Z,Z,Z,Z,by rw[an];rfl,trivial⟩⟩
  ·refine AI f an ?_
   refine Ab f Z λa f=>AI f an ?_
   refine Ah f Z Z AH λa f=>l_o f (AV (f.e Z) an (f.e Z)) λa f=> ?_
   exact⟨_,gr,m,f.weak ⟨Z,Z,Z,Z,Z,Z,Z,by rw[an];rfl,trivial⟩⟩
 ·rintro a w ⟨am,ao,m,f⟩
  have ak:=od2 ao ak
  refine Aa ?_
  rcases Ad hd with⟨ap,hd⟩|⟨ap,hd⟩
  ·refine Ak f Z ap ?_
   refine Ae ?_
   have aq:∀w,(Instr.build 30 #[]).run prog w= .ok (.agg #[sn]) w:=by intro w;simp[Instr.build,Instr.fill,Cr,Ch,BV,B7,BS,Cs]
   refine CZ f Z Z aq λa f=>AE 2 0 (ds:=[sn]) m sizeOf30 f Z Z Z (AC Z AN) Z (lb Z) Z λw m=>Ac f Z λa f=>Aa ?_
   refine Ap ?_
   obtain⟨ar,m,au⟩:=Ow2.nil R0 42 2 m
   have av:=BE (P:=prog) 3 m A8 f (s:=2) rfl rfl rfl
   have m:=m.fr 2
   have m:=m.fr 1
   have m:Mem W am w (ar::aj::ib al 30 [ai]::H):=m.eraseAt 3
   have m:=m.eraseAt 2
   have m:=m.eraseAt 1
   obtain rfl:=sj hd
   exact⟨[(.agg #[sn]),(.bool false)],⟨av,f.get _ _ Z,trivial⟩,f.d,_,[ar],(gt ag ao),m,_,_,Z,Z,au⟩
  ·refine Ai f Z ap ?_
   refine Al ?_
   refine Ae ?_
   refine AT 0 0 (ds:=[ai]) m A8 f Z Z Z Z Z λa f=>Ab f Z λa f=>Ah f Z Z AO λa f=> ?_
   have m:=m.fr 1
   have⟨aw,ax,hd⟩:=bind_some hd
   refine Av f Z call143 (Wk.j0 m ak ax) λay az aA w aB m aC a f=> ?_
   obtain⟨aD,rfl,rfl,aE⟩:=aC
   refine AE 2 0 (ds:=[ai]) m sizeOf30 f Z Z Z (AC (Ow2.one1 0 m aE Z) AN) Z (lb Z) Z λw m=>Ac f Z λa f=>Aa ?_
   refine Ap ?_
   have aF:=BE (P:=prog) 2 m A8 f (s:=2) rfl rfl rfl
   have m:=m.eraseAt 2
   have m:=m.eraseAt 1
   obtain rfl:=sj hd
   exact⟨[(.agg #[ai]),(.bool true)],⟨aF,f.get _ _ Z,trivial⟩,f.d,_,[aD],(gt ag (gt ao aB)),m,_,_,Z,Z,aE⟩
theorem Wk.x1 {aa:Value}{b0:Nat}{ab:LI}{ac ad x1:Int}(m:Mem W G w (ib b0 151 [aa,(iv ac),(iv ad)]::H))(ae:RSl (RI .u8) G aa ab){y:(LL)×(LI)×Int×Int}(hd:D.x1 ab ac ad x1=some y):
  Calls prog 198 #[(pb b0),(iv x1)] w (Res W G H (λG' Ho v=>∃r0:Value,∃i0:Itm,∃r2:Value,Ho=[i0,ib b0 151 [r2,(iv y.2.2.1),(iv y.2.2.2)]]∧v=(.agg #[r0])∧Ow2 R0 42 2 G' i0 r0 y.1∧RSl (RI .u8) G' r2 y.2.1)):=by
 refine As (args:=[(pb b0),(iv x1)]) (N:=33) [.cell 4 30] func198 Z Z (lb Z) Z λa f=> ?_
 unfold D.x1 at hd
 refine Ae ?_
 refine Bm (cs:=[sn]) zeroValue30 m f Z Z λaf w a m f=>Au ?_
 refine Ab f Z λa f=> ?_
 have⟨ag,ah,hd⟩:=bind_some hd
 refine Av f Z call142 (Wk.U m ah) λai aj ak w al m am a f=> ?_
 obtain⟨an,ao,rfl,rfl,ap⟩:=am
 have ae:=rd1 al ae
 refine Bm (cs:=[sn]) zeroValue30 m f Z Z λaq w a m f=>AE 0 0 (ds:=[an]) m sizeOf30 f Z Z Z (AC (Ow2.one1 1 m ap Z) AN) Z (lb Z) Z λw m=>Au ?_
 refine Ab f Z λa f=> ?_
 have m:Mem W aj w (ib b0 151 [aa,(iv ac),(iv ad)]::ib aq 30 [an]::ao::ib af 30 [sn]::H):=m.fr 3
 have⟨ar,au,hd⟩:=bind_some hd
 refine Av f Z call174 (Wk.d m ae au) λav aw ax w ay m az a f=> ?_
 obtain⟨aA,rfl,rfl,aB⟩:=az
 have ap:=od2 ay ap
 refine Ah f Z Z Ar λa f=>Ac f Z λa f=>Aa (Af (Ae ?_))
 refine Ac f Z λa f=>Aa ?_
 have⟨aC,aD,hd⟩:=bind_some hd
 refine AF (λa w=>∃aE:LL,∃aF:LI,∃aG:Int,∃aH:Int,(aE,aF,aG,aH)=aC∧∃(aI:GH) (aJ:Itm) (aK:Value),GLe aw aI∧Fr a 33 [(4,(pb af)),(5,(pb aq))]∧Mem W aI w (ib af 30 [sn]::ib aq 30 [an]::ib b0 151 [aK,(iv aG),(iv aH)]::aJ::H)∧Ow2 R0 42 2 aI aJ an aE∧RSl (RI .u8) aI aK aF) ?_ ?_
 ·refine Aj ?_
  have m:=m.fr 3
  have m:Mem W aw w (ib b0 151 [aA,(iv ar.2.2.1),(iv ar.2.2.2)]::ib af 30 [sn]::ib aq 30 [an]::ao::H):=m.fr 1
  refine AD (λaL a w=>∃aM:Int,∃aN:LI,∃aO:Int,∃aP:Int,∃aQ:LL,(aM,aN,aO,aP,aQ)=aL∧∃(aR:GH) (aS:Value) (aT:Itm),GLe aw aR∧Fr a 33 [(0,(pb b0)),(1,(iv x1)),(4,(pb af)),(5,(pb aq)),(6,(iv (i64.wrap (1+ar.1)))),(7,(iv aM))]∧Mem W aR w (ib b0 151 [aS,(iv aO),(iv aP)]::ib af 30 [sn]::ib aq 30 [an]::aT::H)∧RSl (RI .u8) aR aS aN∧Ow2 R0 42 2 aR aT an aQ) aD ⟨_,_,_,_,_,Z,_,aA,ao,gr,f.k Z,m,aB,ap⟩ ?_
  clear aD f m
  rintro aL aU aV aW a w ⟨aM,aN,aO,aP,aQ,rfl,aR,aS,aT,aX,f,m,aY,aZ⟩
  refine Af (Ae ?_)
  refine Ab f Z λa f=>Ab f Z λa f=>Ah f Z Z AH λa f=>Aa ?_
  rcases Ad aV with⟨a0,aV⟩|⟨a0,aV⟩
  ·refine Ak f Z a0 ?_
   refine Al ?_
   refine Af (Aj (Ae ?_))
   refine Ac f Z λa f=>Aa ?_
   have⟨a1,a2,aV⟩:=bind_some aV
   refine AF (λa w=>∃a3:LI,∃a4:Int,∃a5:Int,∃a6:LL,(a3,a4,a5,a6)=a1∧∃(a7:GH) (a8:Value) (a9:Itm),GLe aR a7∧Fr a 33 [(0,(pb b0)),(1,(iv x1)),(4,(pb af)),(5,(pb aq)),(6,(iv (i64.wrap (1+ar.1)))),(7,(iv aM))]∧Mem W a7 w (ib b0 151 [a8,(iv a4),(iv a5)]::ib af 30 [sn]::ib aq 30 [an]::a9::H)∧RSl (RI .u8) a7 a8 a3∧Ow2 R0 42 2 a7 a9 an a6) ?_ ?_
   ·refine Aj ?_
    refine AD (λba a w=>∃bb:Int,∃bc:LI,∃bd:Int,∃be:Int,∃bf:LL,(bb,bc,bd,be,bf)=ba∧∃(bg:GH) (bh:Value) (bi:Itm),GLe aR bg∧Fr a 33 [(0,(pb b0)),(1,(iv x1)),(4,(pb af)),(5,(pb aq)),(6,(iv (i64.wrap (1+ar.1)))),(7,(iv aM)),(8,(iv bb))]∧Mem W bg w (ib b0 151 [bh,(iv bd),(iv be)]::ib af 30 [sn]::ib aq 30 [an]::bi::H)∧RSl (RI .u8) bg bh bc∧Ow2 R0 42 2 bg bi an bf) a2 ⟨_,_,_,_,_,Z,_,aS,aT,gr,f.k Z,m,aY,aZ⟩ ?_
    clear a2 f m
    rintro ba bj bk bl a w ⟨bb,bc,bd,be,bf,rfl,bg,bh,bi,bm,f,m,bn,bo⟩
    refine Af (Ae ?_)
    refine Ab f Z λa f=>Ab f Z λa f=>Ah f Z Z AH λa f=>Aa ?_
    rcases Ad bk with⟨bp,bk⟩|⟨bp,bk⟩
    ·refine Ak f Z bp ?_
     refine Al ?_
     refine Af (Aj (Ae ?_))
     refine Ab f Z λa f=> ?_
     have⟨bq,br,bk⟩:=bind_some bk
     refine Av f Z call174 (Wk.d m bn br) λbs bt bu w bv m bw a f=> ?_
     obtain⟨bx,rfl,rfl,bz⟩:=bw
     have bo:=od2 bv bo
     refine Ab f Z λa f=>Ah f Z Z AH λa f=>Aa ?_
     rcases Ad bk with⟨bA,bk⟩|⟨bA,bk⟩
     ·refine Ak f Z bA ?_
      refine Am ?_
      refine AT 2 0 (ds:=[an]) m A8 f Z Z Z Z Z λa f=>Ab f Z λa f=>Ab f Z λa f=> ?_
      have m:Mem W bt w (bi::ib b0 151 [bx,(iv bq.2.2.1),(iv bq.2.2.2)]::ib af 30 [sn]::ib aq 30 [an]::H):=m.fr 3
      have⟨bB,bC,bk⟩:=bind_some bk
      refine Av f Z call143 (Wk.j0 m bo bC) λbD bE bF w bG m bH a f=> ?_
      obtain⟨bI,rfl,rfl,bJ⟩:=bH
      have bz:=rd1 bG bz
      refine AE 3 0 (ds:=[an]) m sizeOf30 f Z Z Z (AC (Ow2.one1 0 m bJ Z) AN) Z (lb Z) Z λw m=>Aa (Am ?_)
      refine Ab f Z λa f=>Ah f Z Z Ar λa f=>Ac f Z λa f=>Aa ?_
      have m:=m.fr 3
      have m:=m.fr 3
      have m:Mem W bE w (ib b0 151 [bx,(iv bq.2.2.1),(iv bq.2.2.2)]::ib af 30 [sn]::ib aq 30 [an]::bI::H):=m.fr 3
      obtain rfl:=sj bk
      exact⟨_,Z,_,_,_,_,_,Z,_,bx,bI,(gt bm (gt bv bG)),f.k Z,m,bz,bJ⟩
     ·refine Ai f Z bA ?_
      refine Al ?_
      refine Am ?_
      refine Ab f Z λa f=>Ah f Z Z Ar λa f=>Ac f Z λa f=>Aa ?_
      obtain rfl:=sj bk
      exact⟨_,Z,_,_,_,_,_,Z,_,bx,bi,(gt bm bv),f.k Z,m,bz,bo⟩
    ·refine Ai f Z bp ?_
     refine Ax Z ?_
     obtain rfl:=sj bk
     obtain rfl:=bl _ rfl
     exact⟨_,_,_,_,Z,_,bh,bi,bm,f.k Z,m,bn,bo⟩
   ·rintro a w ⟨a3,a4,a5,a6,rfl,a7,a8,a9,bK,f,m,bL,bM⟩
    refine Am ?_
    refine Ab f Z λa f=>Ah f Z Z Ar λa f=>Ac f Z λa f=>Aa ?_
    obtain rfl:=sj aV
    exact⟨_,Z,_,_,_,_,_,Z,_,a8,a9,(gt aX bK),f.k Z,m,bL,bM⟩
  ·refine Ai f Z a0 ?_
   refine Ax Z ?_
   have m:=m.fr 2
   have m:Mem W aR w (ib af 30 [sn]::ib aq 30 [an]::ib b0 151 [aS,(iv aO),(iv aP)]::aT::H):=m.fr 2
   obtain rfl:=sj aV
   obtain rfl:=aW _ rfl
   exact⟨_,_,_,_,Z,_,aT,aS,aX,f.k Z,m,aZ,aY⟩
 ·rintro a w ⟨aE,aF,aG,aH,rfl,aI,aJ,aK,bN,f,m,bO,bP⟩
  refine Ae ?_
  refine AT 1 0 (ds:=[an]) m A8 f Z Z Z Z Z λa f=>AE 0 0 (ds:=[an]) m sizeOf30 f Z Z Z (AC (Ow2.one1 3 m bO Z) AN) Z (lb Z) Z λw m=>Aa ?_
  refine Ap ?_
  have bQ:=BE (P:=prog) 0 m A8 f (s:=4) rfl rfl rfl
  have m:=m.fr 2
  have m:=m.fr 3
  have m:Mem W aI w (aJ::ib b0 151 [aK,(iv aG),(iv aH)]::ib af 30 [an]::H):=m.eraseAt 3
  have m:=m.eraseAt 2
  obtain rfl:=sj hd
  exact⟨[(.agg #[an])],⟨bQ,trivial⟩,f.d,_,[aJ,ib b0 151 [aK,(iv aG),(iv aH)]],(gt al (gt ay bN)),m,_,_,_,Z,Z,bO,bP⟩
theorem Wk.S0 {aa:Value}{b0:Nat}{ab:LI}{ac ad:Int}(m:Mem W G w (ib b0 151 [aa,(iv ac),(iv ad)]::H))(ae:RSl (RI .u8) G aa ab){y:(LL)×(LI)×Int×Int}(hd:D.S0 ab ac ad=some y):
  Calls prog 173 #[(pb b0)] w (Res W G H (λG' Ho v=>∃r0:Value,∃i0:Itm,∃r2:Value,Ho=[i0,ib b0 151 [r2,(iv y.2.2.1),(iv y.2.2.2)]]∧v=(.agg #[r0])∧Ow2 R0 42 2 G' i0 r0 y.1∧RSl (RI .u8) G' r2 y.2.1)):=by
 refine As (args:=[(pb b0)]) (N:=34) [.cell 2 30] func173 Z Z (lb Z) Z λa f=> ?_
 unfold D.S0 at hd
 refine Ae ?_
 refine Bm (cs:=[sn]) zeroValue30 m f Z Z λaf w a m f=>Aa (Af (Ae ?_))
 refine Ab f Z λa f=> ?_
 have m:Mem W G w (ib b0 151 [aa,(iv ac),(iv ad)]::ib af 30 [sn]::H):=m.fr 1
 have⟨ag,ah,hd⟩:=bind_some hd
 refine Av f Z call174 (Wk.d m ae ah) λai aj ak w al m am a f=> ?_
 obtain⟨an,rfl,rfl,ao⟩:=am
 refine Aa (Aj (Ae ?_))
 refine Ah f Z Z Bq λa f=>Ac f Z λa f=>Aa ?_
 rcases Ad hd with⟨ap,hd⟩|⟨ap,hd⟩
 ·refine Ak f Z ap ?_
  refine Ae ?_
  refine Ab f Z λa f=> ?_
  have⟨aq,ar,hd⟩:=bind_some hd
  refine Av f Z call174 (Wk.d m ao ar) λau av aw w ax m ay a f=> ?_
  obtain⟨az,rfl,rfl,aA⟩:=ay
  refine Ah f Z Z Ar λa f=> ?_
  have⟨aB,aC,hd⟩:=bind_some hd
  refine Av f Z call196 (Wk.e1 m aC) λaD aE aF w aG m aH a f=> ?_
  obtain⟨aI,aJ,rfl,rfl,aK⟩:=aH
  have aA:=rd1 aG aA
  refine Ab f Z λa f=>l_o f (A7 (f.e Z) Z) λa f=>l_o f (A7 (f.e Z) Z) λa f=>Bm (cs:=[sn]) zeroValue30 m f Z Z λaL w a m f=>AE 0 0 (ds:=[aI]) m sizeOf30 f Z Z Z (AC (Ow2.one1 1 m aK Z) AN) Z (lb Z) Z λw m=>Ac f Z λa f=>Au ?_
  refine AT 0 0 (ds:=[aI]) m A8 f Z Z Z Z Z λa f=>AE 3 0 (ds:=[aI]) m sizeOf30 f Z Z Z (AC (Ow2.one1 1 m aK Z) AN) Z (lb Z) Z λw m=>Aa ?_
  refine Ap ?_
  have aM:=BE (P:=prog) 3 m A8 f (s:=2) rfl rfl rfl
  have m:=m.fr 2
  have m:=m.fr 2
  have m:Mem W aE w (aJ::ib b0 151 [az,(iv aq.2.2.1),(iv aq.2.2.2)]::ib aL 30 [aI]::H):=m.eraseAt 3
  have m:=m.eraseAt 2
  obtain rfl:=sj hd
  exact⟨[(.agg #[aI])],⟨aM,trivial⟩,f.d,_,[aJ,ib b0 151 [az,(iv aq.2.2.1),(iv aq.2.2.2)]],(gt al (gt ax aG)),m,_,_,_,Z,Z,aK,aA⟩
 ·refine Ai f Z ap ?_
  refine Ae ?_
  refine Ah f Z Z Bq λa f=>Ac f Z λa f=>Aa ?_
  rcases Ad hd with⟨aN,hd⟩|⟨aN,hd⟩
  ·refine Ak f Z aN ?_
   refine Ae ?_
   refine Ab f Z λa f=> ?_
   have⟨aO,aP,hd⟩:=bind_some hd
   refine Av f Z call174 (Wk.d m ao aP) λaQ aR aS w aT m aU a f=> ?_
   obtain⟨aV,rfl,rfl,aW⟩:=aU
   refine Ah f Z Z Ar λa f=> ?_
   have⟨aX,aY,hd⟩:=bind_some hd
   refine Av f Z call197 (Wk.x0 m aY) λaZ a0 a1 w a2 m a3 a f=> ?_
   obtain⟨a4,a5,rfl,rfl,a6⟩:=a3
   have aW:=rd1 a2 aW
   refine Ab f Z λa f=>l_o f (A7 (f.e Z) Z) λa f=>l_o f (A7 (f.e Z) Z) λa f=>Bm (cs:=[sn]) zeroValue30 m f Z Z λa7 w a m f=>AE 0 0 (ds:=[a4]) m sizeOf30 f Z Z Z (AC (Ow2.one1 1 m a6 Z) AN) Z (lb Z) Z λw m=>Ac f Z λa f=>Au ?_
   refine AT 0 0 (ds:=[a4]) m A8 f Z Z Z Z Z λa f=>AE 3 0 (ds:=[a4]) m sizeOf30 f Z Z Z (AC (Ow2.one1 1 m a6 Z) AN) Z (lb Z) Z λw m=>Aa ?_
   refine Ap ?_
   have a8:=BE (P:=prog) 3 m A8 f (s:=2) rfl rfl rfl
   have m:=m.fr 2
   have m:=m.fr 2
   have m:Mem W a0 w (a5::ib b0 151 [aV,(iv aO.2.2.1),(iv aO.2.2.2)]::ib a7 30 [a4]::H):=m.eraseAt 3
   have m:=m.eraseAt 2
   obtain rfl:=sj hd
   exact⟨[(.agg #[a4])],⟨a8,trivial⟩,f.d,_,[a5,ib b0 151 [aV,(iv aO.2.2.1),(iv aO.2.2.2)]],(gt al (gt aT a2)),m,_,_,_,Z,Z,a6,aW⟩
  ·refine Ai f Z aN ?_
   refine Al ?_
   refine Ae ?_
   refine Ab f Z λa f=>Ab f Z λa f=> ?_
   have⟨a9,ba,hd⟩:=bind_some hd
   refine Av f Z call174 (Wk.d m ao ba) λbb bc bd w be m bf a f=> ?_
   obtain⟨bg,rfl,rfl,bh⟩:=bf
   refine Ah f Z Z Ar λa f=> ?_
   have⟨bi,bj,hd⟩:=bind_some hd
   refine Av f Z call198 (Wk.x1 m bh bj) λbk bl bm w bn m bo a f=> ?_
   obtain⟨bp,bq,br,rfl,rfl,bs,bt⟩:=bo
   refine AE 2 0 (ds:=[bp]) m sizeOf30 f Z Z Z (AC (Ow2.one1 0 m bs Z) AN) Z (lb Z) Z λw m=>Aa ?_
   refine Ap ?_
   have bu:=BE (P:=prog) 2 m A8 f (s:=2) rfl rfl rfl
   have m:=m.eraseAt 2
   obtain rfl:=sj hd
   exact⟨[(.agg #[bp])],⟨bu,trivial⟩,f.d,_,[bq,ib b0 151 [br,(iv bi.2.2.1),(iv bi.2.2.2)]],(gt al (gt be bn)),m,_,_,_,Z,Z,bs,bt⟩
theorem Wk.I0 {aa:Value}{b0:Nat}{ab:LI}{ac ad:Int}(m:Mem W G w (ib b0 151 [aa,(iv ac),(iv ad)]::H))(ae:RSl (RI .u8) G aa ab){y:(LL)×(LI)×Int×Int}(hd:D.I0 ab ac ad=some y):
  Calls prog 136 #[(pb b0)] w (Res W G H (λG' Ho v=>∃r0:Value,∃i0:Itm,∃r2:Value,Ho=[i0,ib b0 151 [r2,(iv y.2.2.1),(iv y.2.2.2)]]∧v=(.agg #[r0])∧Ow2 R0 42 2 G' i0 r0 y.1∧RSl (RI .u8) G' r2 y.2.1)):=by
 refine As (args:=[(pb b0)]) (N:=56) [.cell 2 30] func136 Z Z (lb Z) Z λa f=> ?_
 unfold D.I0 at hd
 refine Ae ?_
 refine Bm (cs:=[sn]) zeroValue30 m f Z Z λaf w a m f=>Au ?_
 refine Ab f Z λa f=> ?_
 have m:Mem W G w (ib b0 151 [aa,(iv ac),(iv ad)]::ib af 30 [sn]::H):=m.fr 1
 have⟨ag,ah,hd⟩:=bind_some hd
 refine Av f Z call173 (Wk.S0 m ae ah) λai aj ak w al m am a f=> ?_
 obtain⟨an,ao,ap,rfl,rfl,aq,ar⟩:=am
 refine Bm (cs:=[sn]) zeroValue30 m f Z Z λau w a m f=>AE 0 0 (ds:=[an]) m sizeOf30 f Z Z Z (AC (Ow2.one1 1 m aq Z) AN) Z (lb Z) Z λw m=>Aa (Af (Ae ?_))
 refine Ab f Z λa f=> ?_
 have m:Mem W aj w (ib b0 151 [ap,(iv ag.2.2.1),(iv ag.2.2.2)]::ib au 30 [an]::ao::ib af 30 [sn]::H):=m.fr 2
 have⟨av,aw,hd⟩:=bind_some hd
 refine Av f Z call137 (Wk.v m ar aw) λax ay az w aA m aB a f=> ?_
 obtain⟨aC,rfl,rfl,aD⟩:=aB
 have aq:=od2 aA aq
 refine Aa ?_
 rcases Ad hd with⟨aE,hd⟩|⟨aE,hd⟩
 ·refine Ak f Z aE ?_
  refine Ae ?_
  refine Ab f Z λa f=>Bu underlying30 Z sizeOf22 f Z λa f=>AJ 1 0 m Bd f Z Z Z Z λa f=>l_own2_len 2 m aq Z underlying22 f Z Z λa f=> ?_
  have⟨aF,aG,hd⟩:=bind_some hd
  refine Av f Z call174 (Wk.d m aD aG) λaH aI aJ w aK m aL a f=> ?_
  obtain⟨aM,rfl,rfl,aN⟩:=aL
  have aq:=od2 aK aq
  refine Ac f Z λa f=>Au ?_
  refine Ab f Z λa f=> ?_
  have⟨aO,aP,hd⟩:=bind_some hd
  refine Av f Z call174 (Wk.d m aN aP) λaQ aR aS w aT m aU a f=> ?_
  obtain⟨aV,rfl,rfl,aW⟩:=aU
  have aq:=od2 aT aq
  refine Aa (Aj (Ae ?_))
  refine Ah f Z Z Bq λa f=>Ac f Z λa f=>Aa ?_
  rcases Ad hd with⟨aX,hd⟩|⟨aX,hd⟩
  ·refine Ak f Z aX ?_
   have⟨aY,aZ,hd⟩:=bind_some hd
   refine AF (λa w=>∃a0:LL,∃a1:LI,∃a2:Int,∃a3:Int,(a0,a1,a2,a3)=aY∧∃(a4:GH) (a5:Itm) (a6:Value),GLe aR a4∧Fr a 56 [(2,(pb af)),(3,(pb au))]∧Mem W a4 w (ib af 30 [sn]::ib au 30 [an]::ib b0 151 [a6,(iv a2),(iv a3)]::a5::H)∧Ow2 R0 42 2 a4 a5 an a0∧RSl (RI .u8) a4 a6 a1) ?_ ?_
   ·have m:Mem W aR w (ao::ib b0 151 [aV,(iv aO.2.2.1),(iv aO.2.2.2)]::ib au 30 [an]::ib af 30 [sn]::H):=m.fr 2
    refine F4 [ao,ib b0 151 [aV,(iv aO.2.2.1),(iv aO.2.2.2)]] (ib au 30 [an]::ib af 30 [sn]::H) 12 Ay (by kernel_rfl) m ?_
    refine B9 0 12 underlying30 Z sizeOf22 Z f Z λa f=>BQ 1 12 0 Bd Z Z Z f Z λa f=>Ag 2 12 Z f Z λa f=>B9 3 12 underlying30 Z sizeOf22 Z f Z λa f=>BQ 4 12 0 Bd Z Z Z f Z λa f=>Ag 5 12 Z f Z λa f=>Ag 8 12 Z f Z λa f=>D9 (i:=6) (j:=9) (l1:= #[true,true,true,true,true,true,true,false,true,false,false,false,false,false]) (l2:= #[true,true,true,true,true,true,false,false,true,true,false,false,false,false]) Z Z (by kernel_rfl) Z Z ?_ ?_
    ·intro a7 w a8 m a9 a9
     have aq:=od2 a8 aq
     have aW:=rd1 a8 aW
     have⟨ba,bb,aZ⟩:=bind_some aZ
     refine Dy 0 m aq Z T22 f Z Z Z bb λbc a bd f=>Aa ?_
     refine a9 a7 [ao,ib b0 151 [aV,(iv aO.2.2.1),(iv aO.2.2.2)]] _ _ gr m ?_
     refine D9 (i:=7) (j:=9) (l1:= #[true,true,true,true,true,true,true,true,true,false,false,false,false,false]) (l2:= #[true,true,true,true,true,true,true,false,true,true,false,false,false,false]) Z Z (by kernel_rfl) Z Z ?_ ?_
     ·intro be w bf m bg bg
      have aq:=od2 bf aq
      have aW:=rd1 bf aW
      refine CO 0 m aq Z AZ f Z Z bd bb λbh a bi f=>Aa ?_
      refine bg be [ao,ib b0 151 [aV,(iv aO.2.2.1),(iv aO.2.2.2)]] _ _ gr m ?_
      refine Bi 9 Z λbj w bk m bl bl=> ?_
      have aq:=od2 bk aq
      have aW:=rd1 bk aW
      have m:Mem W bj w (ib b0 151 [aV,(iv aO.2.2.1),(iv aO.2.2.2)]::ao::ib au 30 [an]::ib af 30 [sn]::H):=m.fr 1
      have⟨bm,bn,aZ⟩:=bind_some aZ
      refine Av f Z call175 (Wk.o0 m aW bn) λbo bp bq w br m bs a f=> ?_
      obtain⟨bt,rfl,rfl,bu⟩:=bs
      have aq:=od2 br aq
      refine Aa ?_
      refine bl bp [ib b0 151 [bt,(iv bm.2.2.1),(iv bm.2.2.2)],ao] _ _ br m ?_
      refine Bi 10 Z λbv w bw m bx bx=> ?_
      have bu:=rd1 bw bu
      have aq:=od2 bw aq
      refine AY (R:=R0) (xs:=([bm.1]:LI)) (RI.one _) m T42 f Z Z Z (by decide) (All2.cons Z (All2.nil _)) λbz bA w a m bB f=>Aa ?_
      refine bx bv [bz,ib b0 151 [bt,(iv bm.2.2.1),(iv bm.2.2.2)],ao] _ _ gr m ?_
      refine Bi 11 Z λbC w bD m bE bE=> ?_
      have bB:=od1 bD bB
      have bu:=rd1 bD bu
      have aq:=od2 bD aq
      have m:Mem W bC w (ao::bz::ib b0 151 [bt,(iv bm.2.2.1),(iv bm.2.2.2)]::ib au 30 [an]::ib af 30 [sn]::H):=m.fr 2
      obtain⟨bF,bG,m,bH,bI⟩:=Ow2.out aq m bb bi
      have⟨bJ,bK,aZ⟩:=bind_some aZ
      refine Bh (RI.one _) 1 m bI Z T42 Z (by decide) f Z Z Z (Ow.src (j:=2) bB m Z) bK λbL bM w a m bN f=>Aa ?_
      refine bE bC [bF,bL,bz,ib b0 151 [bt,(iv bm.2.2.1),(iv bm.2.2.2)]] _ _ gr m ?_
      refine AK λbO w bP m=> ?_
      have bH:=OwH.mono (RI.mono _) bP bH
      have bN:=od1 bP bN
      have bu:=rd1 bP bu
      have⟨bQ,bR,aZ⟩:=bind_some aZ
      refine Dk 0 m bH Z T22 f Z Z Z bR λbS a bT f=>CB m bH bN sizeOf42 f Z Z bT λbU w m bV=>Aa ?_
      have m:=m.fr 2
      have m:=m.fr 3
      have m:Mem W bO w (ib af 30 [sn]::ib au 30 [an]::ib b0 151 [bt,(iv bm.2.2.1),(iv bm.2.2.2)]::bU::bz::H):=m.fr 4
      have m:Mem W bO w (ib af 30 [sn]::ib au 30 [an]::ib b0 151 [bt,(iv bm.2.2.1),(iv bm.2.2.2)]::bU::H):=m.eraseAt 4
      obtain rfl:=sj aZ
      exact⟨_,_,_,_,Z,_,bU,bt,(gt a8 (gt bf (gt bk (gt br (gt bw (gt bD bP)))))),f.k Z,m,bV,bu⟩
     ·intro bj w bk m bl bl
      have⟨bm,bn,aZ⟩:=bind_some aZ
      have⟨bJ,bK,aZ⟩:=bind_some aZ
      have⟨bQ,bR,aZ⟩:=bind_some aZ
      have aq:=od2 bk aq
      have aW:=rd1 bk aW
      have m:Mem W bj w (ib b0 151 [aV,(iv aO.2.2.1),(iv aO.2.2.2)]::ao::ib au 30 [an]::ib af 30 [sn]::H):=m.fr 1
      refine Av f Z call175 (Wk.o0 m aW bn) λbo bp bq w br m bs a f=> ?_
      obtain⟨bt,rfl,rfl,bu⟩:=bs
      have aq:=od2 br aq
      refine Aa ?_
      refine bl bp [ib b0 151 [bt,(iv bm.2.2.1),(iv bm.2.2.2)],ao] _ _ br m ?_
      refine D9 (i:=7) (j:=10) (l1:= #[true,true,true,true,true,true,true,true,true,true,false,false,false,false]) (l2:= #[true,true,true,true,true,true,true,false,true,true,true,false,false,false]) Z Z (by kernel_rfl) Z Z ?_ ?_
      ·intro be w bf m bg bg
       have bu:=rd1 bf bu
       have aq:=od2 bf aq
       refine CO 1 m aq Z AZ f Z Z bd bb λbh a bi f=>Aa ?_
       refine bg be [ib b0 151 [bt,(iv bm.2.2.1),(iv bm.2.2.2)],ao] _ _ gr m ?_
       refine Bi 10 Z λbv w bw m bx bx=> ?_
       have bu:=rd1 bw bu
       have aq:=od2 bw aq
       refine AY (R:=R0) (xs:=([bm.1]:LI)) (RI.one _) m T42 f Z Z Z (by decide) (All2.cons Z (All2.nil _)) λbz bA w a m bB f=>Aa ?_
       refine bx bv [bz,ib b0 151 [bt,(iv bm.2.2.1),(iv bm.2.2.2)],ao] _ _ gr m ?_
       refine Bi 11 Z λbC w bD m bE bE=> ?_
       have bB:=od1 bD bB
       have bu:=rd1 bD bu
       have aq:=od2 bD aq
       have m:Mem W bC w (ao::bz::ib b0 151 [bt,(iv bm.2.2.1),(iv bm.2.2.2)]::ib au 30 [an]::ib af 30 [sn]::H):=m.fr 2
       obtain⟨bF,bG,m,bH,bI⟩:=Ow2.out aq m bb bi
       refine Bh (RI.one _) 1 m bI Z T42 Z (by decide) f Z Z Z (Ow.src (j:=2) bB m Z) bK λbL bM w a m bN f=>Aa ?_
       refine bE bC [bF,bL,bz,ib b0 151 [bt,(iv bm.2.2.1),(iv bm.2.2.2)]] _ _ gr m ?_
       refine AK λbO w bP m=> ?_
       have bH:=OwH.mono (RI.mono _) bP bH
       have bN:=od1 bP bN
       have bu:=rd1 bP bu
       refine Dk 0 m bH Z T22 f Z Z Z bR λbS a bT f=>CB m bH bN sizeOf42 f Z Z bT λbU w m bV=>Aa ?_
       have m:=m.fr 2
       have m:=m.fr 3
       have m:Mem W bO w (ib af 30 [sn]::ib au 30 [an]::ib b0 151 [bt,(iv bm.2.2.1),(iv bm.2.2.2)]::bU::bz::H):=m.fr 4
       have m:Mem W bO w (ib af 30 [sn]::ib au 30 [an]::ib b0 151 [bt,(iv bm.2.2.1),(iv bm.2.2.2)]::bU::H):=m.eraseAt 4
       obtain rfl:=sj aZ
       exact⟨_,_,_,_,Z,_,bU,bt,(gt a8 (gt bk (gt br (gt bf (gt bw (gt bD bP)))))),f.k Z,m,bV,bu⟩
      ·intro bv w bw m bx bx
       have bu:=rd1 bw bu
       have aq:=od2 bw aq
       refine AY (R:=R0) (xs:=([bm.1]:LI)) (RI.one _) m T42 f Z Z Z (by decide) (All2.cons Z (All2.nil _)) λbz bA w a m bB f=>Aa ?_
       refine bx bv [bz,ib b0 151 [bt,(iv bm.2.2.1),(iv bm.2.2.2)],ao] _ _ gr m ?_
       refine Bi 7 Z λbe w bf m bg bg=> ?_
       have bB:=od1 bf bB
       have bu:=rd1 bf bu
       have aq:=od2 bf aq
       refine CO 2 m aq Z AZ f Z Z bd bb λbh a bi f=>Aa ?_
       refine bg be [bz,ib b0 151 [bt,(iv bm.2.2.1),(iv bm.2.2.2)],ao] _ _ gr m ?_
       refine Bi 11 Z λbC w bD m bE bE=> ?_
       have bB:=od1 bD bB
       have bu:=rd1 bD bu
       have aq:=od2 bD aq
       have m:Mem W bC w (ao::bz::ib b0 151 [bt,(iv bm.2.2.1),(iv bm.2.2.2)]::ib au 30 [an]::ib af 30 [sn]::H):=m.fr 2
       obtain⟨bF,bG,m,bH,bI⟩:=Ow2.out aq m bb bi
       refine Bh (RI.one _) 1 m bI Z T42 Z (by decide) f Z Z Z (Ow.src (j:=2) bB m Z) bK λbL bM w a m bN f=>Aa ?_
       refine bE bC [bF,bL,bz,ib b0 151 [bt,(iv bm.2.2.1),(iv bm.2.2.2)]] _ _ gr m ?_
       refine AK λbO w bP m=> ?_
       have bH:=OwH.mono (RI.mono _) bP bH
       have bN:=od1 bP bN
       have bu:=rd1 bP bu
       refine Dk 0 m bH Z T22 f Z Z Z bR λbS a bT f=>CB m bH bN sizeOf42 f Z Z bT λbU w m bV=>Aa ?_
       have m:=m.fr 2
       have m:=m.fr 3
       have m:Mem W bO w (ib af 30 [sn]::ib au 30 [an]::ib b0 151 [bt,(iv bm.2.2.1),(iv bm.2.2.2)]::bU::bz::H):=m.fr 4
       have m:Mem W bO w (ib af 30 [sn]::ib au 30 [an]::ib b0 151 [bt,(iv bm.2.2.1),(iv bm.2.2.2)]::bU::H):=m.eraseAt 4
       obtain rfl:=sj aZ
       exact⟨_,_,_,_,Z,_,bU,bt,(gt a8 (gt bk (gt br (gt bw (gt bf (gt bD bP)))))),f.k Z,m,bV,bu⟩
    ·intro bj w bk m bl bl
     have⟨ba,bb,aZ⟩:=bind_some aZ
     have⟨bm,bn,aZ⟩:=bind_some aZ
     have⟨bJ,bK,aZ⟩:=bind_some aZ
     have⟨bQ,bR,aZ⟩:=bind_some aZ
     have aq:=od2 bk aq
     have aW:=rd1 bk aW
     have m:Mem W bj w (ib b0 151 [aV,(iv aO.2.2.1),(iv aO.2.2.2)]::ao::ib au 30 [an]::ib af 30 [sn]::H):=m.fr 1
     refine Av f Z call175 (Wk.o0 m aW bn) λbo bp bq w br m bs a f=> ?_
     obtain⟨bt,rfl,rfl,bu⟩:=bs
     have aq:=od2 br aq
     refine Aa ?_
     refine bl bp [ib b0 151 [bt,(iv bm.2.2.1),(iv bm.2.2.2)],ao] _ _ br m ?_
     refine D9 (i:=6) (j:=10) (l1:= #[true,true,true,true,true,true,true,false,true,true,false,false,false,false]) (l2:= #[true,true,true,true,true,true,false,false,true,true,true,false,false,false]) Z Z (by kernel_rfl) Z Z ?_ ?_
     ·intro a7 w a8 m a9 a9
      have bu:=rd1 a8 bu
      have aq:=od2 a8 aq
      refine Dy 1 m aq Z T22 f Z Z Z bb λbc a bd f=>Aa ?_
      refine a9 a7 [ib b0 151 [bt,(iv bm.2.2.1),(iv bm.2.2.2)],ao] _ _ gr m ?_
      refine D9 (i:=7) (j:=10) (l1:= #[true,true,true,true,true,true,true,true,true,true,false,false,false,false]) (l2:= #[true,true,true,true,true,true,true,false,true,true,true,false,false,false]) Z Z (by kernel_rfl) Z Z ?_ ?_
      ·intro be w bf m bg bg
       have bu:=rd1 bf bu
       have aq:=od2 bf aq
       refine CO 1 m aq Z AZ f Z Z bd bb λbh a bi f=>Aa ?_
       refine bg be [ib b0 151 [bt,(iv bm.2.2.1),(iv bm.2.2.2)],ao] _ _ gr m ?_
       refine Bi 10 Z λbv w bw m bx bx=> ?_
       have bu:=rd1 bw bu
       have aq:=od2 bw aq
       refine AY (R:=R0) (xs:=([bm.1]:LI)) (RI.one _) m T42 f Z Z Z (by decide) (All2.cons Z (All2.nil _)) λbz bA w a m bB f=>Aa ?_
       refine bx bv [bz,ib b0 151 [bt,(iv bm.2.2.1),(iv bm.2.2.2)],ao] _ _ gr m ?_
       refine Bi 11 Z λbC w bD m bE bE=> ?_
       have bB:=od1 bD bB
       have bu:=rd1 bD bu
       have aq:=od2 bD aq
       have m:Mem W bC w (ao::bz::ib b0 151 [bt,(iv bm.2.2.1),(iv bm.2.2.2)]::ib au 30 [an]::ib af 30 [sn]::H):=m.fr 2
       obtain⟨bF,bG,m,bH,bI⟩:=Ow2.out aq m bb bi
       refine Bh (RI.one _) 1 m bI Z T42 Z (by decide) f Z Z Z (Ow.src (j:=2) bB m Z) bK λbL bM w a m bN f=>Aa ?_
       refine bE bC [bF,bL,bz,ib b0 151 [bt,(iv bm.2.2.1),(iv bm.2.2.2)]] _ _ gr m ?_
       refine AK λbO w bP m=> ?_
       have bH:=OwH.mono (RI.mono _) bP bH
       have bN:=od1 bP bN
       have bu:=rd1 bP bu
       refine Dk 0 m bH Z T22 f Z Z Z bR λbS a bT f=>CB m bH bN sizeOf42 f Z Z bT λbU w m bV=>Aa ?_
       have m:=m.fr 2
       have m:=m.fr 3
       have m:Mem W bO w (ib af 30 [sn]::ib au 30 [an]::ib b0 151 [bt,(iv bm.2.2.1),(iv bm.2.2.2)]::bU::bz::H):=m.fr 4
       have m:Mem W bO w (ib af 30 [sn]::ib au 30 [an]::ib b0 151 [bt,(iv bm.2.2.1),(iv bm.2.2.2)]::bU::H):=m.eraseAt 4
       obtain rfl:=sj aZ
       exact⟨_,_,_,_,Z,_,bU,bt,(gt bk (gt br (gt a8 (gt bf (gt bw (gt bD bP)))))),f.k Z,m,bV,bu⟩
      ·intro bv w bw m bx bx
       have bu:=rd1 bw bu
       have aq:=od2 bw aq
       refine AY (R:=R0) (xs:=([bm.1]:LI)) (RI.one _) m T42 f Z Z Z (by decide) (All2.cons Z (All2.nil _)) λbz bA w a m bB f=>Aa ?_
       refine bx bv [bz,ib b0 151 [bt,(iv bm.2.2.1),(iv bm.2.2.2)],ao] _ _ gr m ?_
       refine Bi 7 Z λbe w bf m bg bg=> ?_
       have bB:=od1 bf bB
       have bu:=rd1 bf bu
       have aq:=od2 bf aq
       refine CO 2 m aq Z AZ f Z Z bd bb λbh a bi f=>Aa ?_
       refine bg be [bz,ib b0 151 [bt,(iv bm.2.2.1),(iv bm.2.2.2)],ao] _ _ gr m ?_
       refine Bi 11 Z λbC w bD m bE bE=> ?_
       have bB:=od1 bD bB
       have bu:=rd1 bD bu
       have aq:=od2 bD aq
       have m:Mem W bC w (ao::bz::ib b0 151 [bt,(iv bm.2.2.1),(iv bm.2.2.2)]::ib au 30 [an]::ib af 30 [sn]::H):=m.fr 2
       obtain⟨bF,bG,m,bH,bI⟩:=Ow2.out aq m bb bi
       refine Bh (RI.one _) 1 m bI Z T42 Z (by decide) f Z Z Z (Ow.src (j:=2) bB m Z) bK λbL bM w a m bN f=>Aa ?_
       refine bE bC [bF,bL,bz,ib b0 151 [bt,(iv bm.2.2.1),(iv bm.2.2.2)]] _ _ gr m ?_
       refine AK λbO w bP m=> ?_
       have bH:=OwH.mono (RI.mono _) bP bH
       have bN:=od1 bP bN
       have bu:=rd1 bP bu
       refine Dk 0 m bH Z T22 f Z Z Z bR λbS a bT f=>CB m bH bN sizeOf42 f Z Z bT λbU w m bV=>Aa ?_
       have m:=m.fr 2
       have m:=m.fr 3
       have m:Mem W bO w (ib af 30 [sn]::ib au 30 [an]::ib b0 151 [bt,(iv bm.2.2.1),(iv bm.2.2.2)]::bU::bz::H):=m.fr 4
       have m:Mem W bO w (ib af 30 [sn]::ib au 30 [an]::ib b0 151 [bt,(iv bm.2.2.1),(iv bm.2.2.2)]::bU::H):=m.eraseAt 4
       obtain rfl:=sj aZ
       exact⟨_,_,_,_,Z,_,bU,bt,(gt bk (gt br (gt a8 (gt bw (gt bf (gt bD bP)))))),f.k Z,m,bV,bu⟩
     ·intro bv w bw m bx bx
      have bu:=rd1 bw bu
      have aq:=od2 bw aq
      refine AY (R:=R0) (xs:=([bm.1]:LI)) (RI.one _) m T42 f Z Z Z (by decide) (All2.cons Z (All2.nil _)) λbz bA w a m bB f=>Aa ?_
      refine bx bv [bz,ib b0 151 [bt,(iv bm.2.2.1),(iv bm.2.2.2)],ao] _ _ gr m ?_
      refine Bi 6 Z λa7 w a8 m a9 a9=> ?_
      have bB:=od1 a8 bB
      have bu:=rd1 a8 bu
      have aq:=od2 a8 aq
      refine Dy 2 m aq Z T22 f Z Z Z bb λbc a bd f=>Aa ?_
      refine a9 a7 [bz,ib b0 151 [bt,(iv bm.2.2.1),(iv bm.2.2.2)],ao] _ _ gr m ?_
      refine Bi 7 Z λbe w bf m bg bg=> ?_
      have bB:=od1 bf bB
      have bu:=rd1 bf bu
      have aq:=od2 bf aq
      refine CO 2 m aq Z AZ f Z Z bd bb λbh a bi f=>Aa ?_
      refine bg be [bz,ib b0 151 [bt,(iv bm.2.2.1),(iv bm.2.2.2)],ao] _ _ gr m ?_
      refine Bi 11 Z λbC w bD m bE bE=> ?_
      have bB:=od1 bD bB
      have bu:=rd1 bD bu
      have aq:=od2 bD aq
      have m:Mem W bC w (ao::bz::ib b0 151 [bt,(iv bm.2.2.1),(iv bm.2.2.2)]::ib au 30 [an]::ib af 30 [sn]::H):=m.fr 2
      obtain⟨bF,bG,m,bH,bI⟩:=Ow2.out aq m bb bi
      refine Bh (RI.one _) 1 m bI Z T42 Z (by decide) f Z Z Z (Ow.src (j:=2) bB m Z) bK λbL bM w a m bN f=>Aa ?_
      refine bE bC [bF,bL,bz,ib b0 151 [bt,(iv bm.2.2.1),(iv bm.2.2.2)]] _ _ gr m ?_
      refine AK λbO w bP m=> ?_
      have bH:=OwH.mono (RI.mono _) bP bH
      have bN:=od1 bP bN
      have bu:=rd1 bP bu
      refine Dk 0 m bH Z T22 f Z Z Z bR λbS a bT f=>CB m bH bN sizeOf42 f Z Z bT λbU w m bV=>Aa ?_
      have m:=m.fr 2
      have m:=m.fr 3
      have m:Mem W bO w (ib af 30 [sn]::ib au 30 [an]::ib b0 151 [bt,(iv bm.2.2.1),(iv bm.2.2.2)]::bU::bz::H):=m.fr 4
      have m:Mem W bO w (ib af 30 [sn]::ib au 30 [an]::ib b0 151 [bt,(iv bm.2.2.1),(iv bm.2.2.2)]::bU::H):=m.eraseAt 4
      obtain rfl:=sj aZ
      exact⟨_,_,_,_,Z,_,bU,bt,(gt bk (gt br (gt bw (gt a8 (gt bf (gt bD bP)))))),f.k Z,m,bV,bu⟩
   ·rintro a w ⟨a0,a1,a2,a3,rfl,a4,a5,a6,bW,f,m,bX,bY⟩
    refine Ae ?_
    refine AT 1 0 (ds:=[an]) m A8 f Z Z Z Z Z λa f=>AE 0 0 (ds:=[an]) m sizeOf30 f Z Z Z (AC (Ow2.one1 3 m bX Z) AN) Z (lb Z) Z λw m=>Aa ?_
    refine Ap ?_
    have bZ:=BE (P:=prog) 0 m A8 f (s:=2) rfl rfl rfl
    have m:=m.fr 2
    have m:=m.fr 3
    have m:Mem W a4 w (a5::ib b0 151 [a6,(iv a2),(iv a3)]::ib af 30 [an]::H):=m.eraseAt 3
    have m:=m.eraseAt 2
    obtain rfl:=sj hd
    exact⟨[(.agg #[an])],⟨bZ,trivial⟩,f.d,_,[a5,ib b0 151 [a6,(iv a2),(iv a3)]],(gt al (gt aA (gt aK (gt aT bW)))),m,_,_,_,Z,Z,bX,bY⟩
  ·refine Ai f Z aX ?_
   refine Ae ?_
   refine Ah f Z Z Bq λa f=>Ac f Z λa f=>Aa ?_
   rcases Ad hd with⟨b1,hd⟩|⟨b1,hd⟩
   ·refine Ak f Z b1 ?_
    refine Am ?_
    refine Bu underlying30 Z sizeOf22 f Z λa f=>AJ 1 0 m Bd f Z Z Z Z λa f=>Ab f Z λa f=>Ab f Z λa f=>AY (R:=R0) (xs:=([aF.1]:LI)) (RI.one _) m T42 f Z Z Z (by decide) (All2.cons Z (All2.nil _)) λb2 b3 w a m b4 f=> ?_
    have⟨b5,b6,hd⟩:=bind_some hd
    refine Dy 3 m aq Z T22 f Z Z Z b6 λb7 a b8 f=> ?_
    have m:Mem W aR w (ao::b2::ib b0 151 [aV,(iv aO.2.2.1),(iv aO.2.2.2)]::ib au 30 [an]::ib af 30 [sn]::H):=m.fr 3
    refine FJ m aq b4 sizeOf42 f Z Z b8 b6 λb9 w m ca=>Au ?_
    refine AT 2 0 (ds:=[an]) m A8 f Z Z Z Z Z λa f=>AE 3 0 (ds:=[an]) m sizeOf30 f Z Z Z (AC (Ow2.one1 0 m ca Z) AN) Z (lb Z) Z λw m=>Aa ?_
    refine Ap ?_
    have cb:=BE (P:=prog) 3 m A8 f (s:=2) rfl rfl rfl
    have m:=m.eraseAt 3
    have m:Mem W aR w (b9::ib b0 151 [aV,(iv aO.2.2.1),(iv aO.2.2.2)]::H):=m.eraseAt 2
    obtain rfl:=sj hd
    exact⟨[(.agg #[an])],⟨cb,trivial⟩,f.d,_,[b9,ib b0 151 [aV,(iv aO.2.2.1),(iv aO.2.2.2)]],(gt al (gt aA (gt aK aT))),m,_,_,_,Z,Z,ca,aW⟩
   ·refine Ai f Z b1 ?_
    refine Ae ?_
    refine Ah f Z Z Bq λa f=>Ac f Z λa f=>Aa ?_
    rcases Ad hd with⟨cc,hd⟩|⟨cc,hd⟩
    ·refine Ak f Z cc ?_
     refine Am ?_
     refine Ab f Z λa f=> ?_
     have⟨cd,ce,hd⟩:=bind_some hd
     refine Av f Z call174 (Wk.d m aW ce) λcf cg ch w ci m cj a f=> ?_
     obtain⟨ck,rfl,rfl,cl⟩:=cj
     refine Ah f Z Z Ar λa f=> ?_
     have⟨cm,cn,hd⟩:=bind_some hd
     refine Av f Z call142 (Wk.U m cn) λco cp cq w cr m ct a f=> ?_
     obtain⟨cu,cv,rfl,rfl,cw⟩:=ct
     have cl:=rd1 cr cl
     refine AE 2 0 (ds:=[cu]) m sizeOf30 f Z Z Z (AC (Ow2.one1 0 m cw Z) AN) Z (lb Z) Z λw m=>Au ?_
     refine AT 2 0 (ds:=[cu]) m A8 f Z Z Z Z Z λa f=>AE 4 0 (ds:=[cu]) m sizeOf30 f Z Z Z (AC (Ow2.one1 0 m cw Z) AN) Z (lb Z) Z λw m=>Aa ?_
     refine Ap ?_
     have cx:=BE (P:=prog) 4 m A8 f (s:=2) rfl rfl rfl
     have m:=m.fr 3
     have m:=m.fr 2
     have m:Mem W cp w (cv::ib b0 151 [ck,(iv cd.2.2.1),(iv cd.2.2.2)]::ao::ib au 30 [cu]::ib af 30 [cu]::H):=m.fr 2
     have m:=m.eraseAt 4
     have m:=m.eraseAt 3
     have m:Mem W cp w (cv::ib b0 151 [ck,(iv cd.2.2.1),(iv cd.2.2.2)]::H):=m.eraseAt 2
     obtain rfl:=sj hd
     exact⟨[(.agg #[cu])],⟨cx,trivial⟩,f.d,_,[cv,ib b0 151 [ck,(iv cd.2.2.1),(iv cd.2.2.2)]],(gt al (gt aA (gt aK (gt aT (gt ci cr))))),m,_,_,_,Z,Z,cw,cl⟩
    ·refine Ai f Z cc ?_
     refine Ae ?_
     refine Ah f Z Z Bq λa f=>Ac f Z λa f=>Aa ?_
     rcases Ad hd with⟨cy,hd⟩|⟨cy,hd⟩
     ·refine Ak f Z cy ?_
      refine Am ?_
      have cz:∀w,(Instr.build 30 #[]).run prog w= .ok (.agg #[sn]) w:=by intro w;simp[Instr.build,Instr.fill,Cr,Ch,BV,B7,BS,Cs]
      refine CZ f Z Z cz λa f=>AE 1 0 (ds:=[sn]) m sizeOf30 f Z Z Z (AC Z AN) Z (lb Z) Z λw m=>Au ?_
      refine AT 1 0 (ds:=[sn]) m A8 f Z Z Z Z Z λa f=>AE 3 0 (ds:=[sn]) m sizeOf30 f Z Z Z (AC Z AN) Z (lb Z) Z λw m=>Aa ?_
      refine Ap ?_
      obtain⟨cA,m,cB⟩:=Ow2.nil R0 42 2 m
      have cC:=BE (P:=prog) 4 m A8 f (s:=2) rfl rfl rfl
      have m:=m.eraseAt 4
      have m:=m.eraseAt 3
      have m:Mem W aR w (cA::ib b0 151 [aV,(iv aO.2.2.1),(iv aO.2.2.2)]::H):=m.eraseAt 2
      obtain rfl:=sj hd
      exact⟨[(.agg #[sn])],⟨cC,trivial⟩,f.d,_,[cA,ib b0 151 [aV,(iv aO.2.2.1),(iv aO.2.2.2)]],(gt al (gt aA (gt aK aT))),m,_,_,_,Z,Z,cB,aW⟩
     ·refine Ai f Z cy ?_
      refine Ae ?_
      refine Ah f Z Z Bq λa f=>Ac f Z λa f=>Aa ?_
      rcases Ad hd with⟨cD,hd⟩|⟨cD,hd⟩
      ·refine Ak f Z cD ?_
       refine Am ?_
       refine Bu underlying30 Z sizeOf22 f Z λa f=>AJ 1 0 m Bd f Z Z Z Z λa f=>Ab f Z λa f=>AY (R:=R0) (xs:=([]:LI)) (RI.one _) m T42 f Z Z Z (by decide) (All2.nil _) λcE cF w a m cG f=> ?_
       have⟨cH,cI,hd⟩:=bind_some hd
       refine Dy 3 m aq Z T22 f Z Z Z cI λcJ a cK f=> ?_
       have m:Mem W aR w (ao::cE::ib b0 151 [aV,(iv aO.2.2.1),(iv aO.2.2.2)]::ib au 30 [an]::ib af 30 [sn]::H):=m.fr 3
       refine FJ m aq cG sizeOf42 f Z Z cK cI λcL w m cM=>Au ?_
       refine AT 2 0 (ds:=[an]) m A8 f Z Z Z Z Z λa f=>AE 3 0 (ds:=[an]) m sizeOf30 f Z Z Z (AC (Ow2.one1 0 m cM Z) AN) Z (lb Z) Z λw m=>Aa ?_
       refine Ap ?_
       have cN:=BE (P:=prog) 3 m A8 f (s:=2) rfl rfl rfl
       have m:=m.eraseAt 3
       have m:Mem W aR w (cL::ib b0 151 [aV,(iv aO.2.2.1),(iv aO.2.2.2)]::H):=m.eraseAt 2
       obtain rfl:=sj hd
       exact⟨[(.agg #[an])],⟨cN,trivial⟩,f.d,_,[cL,ib b0 151 [aV,(iv aO.2.2.1),(iv aO.2.2.2)]],(gt al (gt aA (gt aK aT))),m,_,_,_,Z,Z,cM,aW⟩
      ·refine Ai f Z cD ?_
       refine Al ?_
       refine Ae ?_
       refine AT 1 0 (ds:=[an]) m A8 f Z Z Z Z Z λa f=>AE 3 0 (ds:=[an]) m sizeOf30 f Z Z Z (AC (Ow2.one1 2 m aq Z) AN) Z (lb Z) Z λw m=>Aa ?_
       refine Ap ?_
       have cO:=BE (P:=prog) 3 m A8 f (s:=2) rfl rfl rfl
       have m:=m.fr 2
       have m:=m.eraseAt 3
       have m:Mem W aR w (ao::ib b0 151 [aV,(iv aO.2.2.1),(iv aO.2.2.2)]::H):=m.eraseAt 2
       obtain rfl:=sj hd
       exact⟨[(.agg #[an])],⟨cO,trivial⟩,f.d,_,[ao,ib b0 151 [aV,(iv aO.2.2.1),(iv aO.2.2.2)]],(gt al (gt aA (gt aK aT))),m,_,_,_,Z,Z,aq,aW⟩
 ·refine Ai f Z aE ?_
  refine Al ?_
  refine Ae ?_
  refine AT 1 0 (ds:=[an]) m A8 f Z Z Z Z Z λa f=>AE 3 0 (ds:=[an]) m sizeOf30 f Z Z Z (AC (Ow2.one1 2 m aq Z) AN) Z (lb Z) Z λw m=>Aa ?_
  refine Ap ?_
  have cP:=BE (P:=prog) 3 m A8 f (s:=2) rfl rfl rfl
  have m:=m.fr 2
  have m:=m.eraseAt 3
  have m:=m.eraseAt 2
  obtain rfl:=sj hd
  exact⟨[(.agg #[an])],⟨cP,trivial⟩,f.d,_,[ao,ib b0 151 [aC,(iv av.2.2.1),(iv av.2.2.2)]],(gt al aA),m,_,_,_,Z,Z,aq,aD⟩
theorem Wk.A {x0:Int}(m:Mem W G w (H)){y:(LI)}(hd:D.A x0=some y):
  Calls prog 87 #[(iv x0)] w (Res W G H (λG' Ho v=>∃r0:Value,∃i0:Itm,Ho=[i0]∧r0=v∧Ow R0 2 G' i0 r0 y)):=by
 refine As (args:=[(iv x0)]) (N:=16) [.tmp 2] func87 Z Z (lb Z) Z λa f=> ?_
 unfold D.A at hd
 refine Ae ?_
 refine Ac f Z λa f=>Au ?_
 refine AY (R:=R0) (xs:=([]:LI)) (RI.one _) m T42 f Z Z Z (by decide) (All2.nil _) λaa ab w a m ac f=>Ac f Z λa f=>Aa (Af (Ae ?_))
 refine Ac f Z λa f=>Aa ?_
 have⟨ad,ae,hd⟩:=bind_some hd
 refine AF (λa w=>∃af:LI,af=ad∧∃(ag:GH) (ah:Value) (ai:Itm),GLe G ag∧Fr a 16 [(3,ah)]∧Mem W ag w (ai::H)∧Ow R0 2 ag ai ah af) ?_ ?_
 ·refine Aj ?_
  refine AD (λaj a w=>∃ak:LI,∃al:Int,(ak,al)=aj∧∃(am:GH) (an:Value) (ao:Itm),GLe G am∧Fr a 16 [(0,(iv x0)),(3,an),(4,(iv al))]∧Mem W am w (ao::H)∧Ow R0 2 am ao an ak) ae ⟨_,_,Z,_,ab,aa,gr,f.k Z,m,ac⟩ ?_
  clear ae f m
  rintro aj ap aq ar a w ⟨ak,al,rfl,am,an,ao,au,f,m,av⟩
  refine Af (Ae ?_)
  refine Ab f Z λa f=>Ab f Z λa f=>Ah f Z Z AH λa f=>Aa ?_
  rcases Ad aq with⟨aw,aq⟩|⟨aw,aq⟩
  ·refine Ak f Z aw ?_
   refine Al ?_
   refine Af (Aj (Am ?_))
   refine Ab f Z λa f=>Ab f Z λa f=>AY (R:=R0) (xs:=([al]:LI)) (RI.one _) m T42 f Z Z Z (by decide) (All2.cons Z (All2.nil _)) λax ay w a m az f=> ?_
   have⟨aA,aB,aq⟩:=bind_some aq
   refine Bh (RI.one _) 1 m av Z T42 Z (by decide) f Z Z Z (Ow.src (j:=0) az m Z) aB λaC aD w a m aE f=>Ac f Z λa f=>Aa (Am ?_)
   refine Ab f Z λa f=>Ah f Z Z Ar λa f=>Ac f Z λa f=>Aa ?_
   have m:=m.fr 1
   have m:=m.eraseAt 1
   obtain rfl:=sj aq
   exact⟨_,Z,_,_,Z,_,aD,aC,au,f.k Z,m,aE⟩
  ·refine Ai f Z aw ?_
   refine Ax Z ?_
   obtain rfl:=sj aq
   obtain rfl:=ar _ rfl
   exact⟨_,Z,_,an,ao,au,f.k Z,m,av⟩
 ·rintro a w ⟨af,rfl,ag,ah,ai,aF,f,m,aG⟩
  refine Ae ?_
  refine Ab f Z λa f=>Ac f Z λa f=>Aa ?_
  refine Ap ?_
  obtain rfl:=sj hd
  exact⟨[ah],f.g Z,f.d,_,[ai],aF,m,_,_,Z,Z,aG⟩
theorem Wk.d1 {aa:Value}{b0:Nat}{ab:LI}{ac ad x1 x2:Int}(m:Mem W G w (ib b0 151 [aa,(iv ac),(iv ad)]::H))(ae:RSl (RI .u8) G aa ab){y:Int×(LI)×Int×Int}(hd:D.d1 ab ac ad x1 x2=some y):
  Calls prog 176 #[(pb b0),(iv x1),(iv x2)] w (Res W G H (λG' Ho v=>∃r0:Value,Ho=[ib b0 151 [r0,(iv y.2.2.1),(iv y.2.2.2)]]∧v=(iv y.1)∧RSl (RI .u8) G' r0 y.2.1)):=by
 refine As (args:=[(pb b0),(iv x1),(iv x2)]) (N:=15) [.tmp 6] func176 Z Z (lb Z) Z λa f=> ?_
 unfold D.d1 at hd
 refine Ae ?_
 refine Ac f Z λa f=>Au ?_
 refine Ab f Z λa f=>Ab f Z λa f=>Ab f Z λa f=>Ab f Z λa f=>Ah f Z Z AO λa f=>Ah f Z Z Ar λa f=> ?_
 have⟨af,ag,hd⟩:=bind_some hd
 refine Av f Z call174 (Wk.d m ae ag) λah ai aj w ak m al a f=> ?_
 obtain⟨am,rfl,rfl,an⟩:=al
 refine Ah f Z Z Ar λa f=>Ac f Z λa f=>Aa ?_
 refine Ap ?_
 obtain rfl:=sj hd
 exact⟨[(iv (i64.wrap (x1+af.1)))],f.g Z,f.d,_,[ib b0 151 [am,(iv af.2.2.1),(iv af.2.2.2)]],ak,m,_,Z,Z,an⟩
theorem Wk.i0 {aa:Value}{b0:Nat}{ab:Value}{ac:LI}{ad ae:Int}{af:LL}(m:Mem W G w (ib b0 151 [aa,(iv ad),(iv ae)]::H))(ag:RSl (RI .u8) G aa ac)(ah:R2 G ab af){y:(LI)×(LI)×Int×Int}(hd:D.i0 ac ad ae af=some y):
  Calls prog 139 #[(pb b0),(.agg #[ab])] w (Res W G H (λG' Ho v=>∃r0:Value,∃i0:Itm,∃r2:Value,Ho=[i0,ib b0 151 [r2,(iv y.2.2.1),(iv y.2.2.2)]]∧r0=v∧Ow R0 2 G' i0 r0 y.1∧RSl (RI .u8) G' r2 y.2.1)):=by
 refine As (args:=[(pb b0),(.agg #[ab])]) (N:=52) [.tmp 4] func139 Z Z (lb Z) Z λa f=> ?_
 unfold D.i0 at hd
 refine Ae ?_
 refine By (cs:=[ab]) m f Z Z Z λai w a m f=>Ac f Z λa f=>Au ?_
 refine Bu underlying30 Z sizeOf22 f Z λa f=>AJ 0 0 m Bd f Z Z Z Z λa f=>A5 underlying22 f Z Z ah λa f=> ?_
 have⟨aj,ak,hd⟩:=bind_some hd
 refine Av f Z call87 (Wk.A m ak) λal am an w ao m ap a f=> ?_
 obtain⟨aq,ar,rfl,rfl,au⟩:=ap
 have ag:=rd1 ao ag
 refine Ac f Z λa f=>Au ?_
 refine AY (R:=R0) (xs:=([]:LI)) (RI.one _) m T42 f Z Z Z (by decide) (All2.nil _) λav aw w a m ax f=>Ac f Z λa f=>Aa (Af ?_)
 have⟨ay,az,hd⟩:=bind_some hd
 refine AF (λa w=>∃aA:LI,∃aB:LI,∃aC:Int,∃aD:Int,(aA,aB,aC,aD)=ay∧∃(aE:GH) (aF:Value) (aG:Itm) (aH:Value),GLe am aE∧Fr a 52 [(0,(pb b0)),(6,aF)]∧Mem W aE w (ib b0 151 [aH,(iv aC),(iv aD)]::aG::H)∧Ow R0 2 aE aG aF aA∧RSl (RI .u8) aE aH aB) ?_ ?_
 ·refine Aj ?_
  have m:=m.fr 1
  have m:=m.fr 3
  have m:=m.eraseAt 3
  refine AD (λaI a w=>∃aJ:LI,∃aK:LI,∃aL:LI,∃aM:Int,∃aN:Int,(aJ,aK,aL,aM,aN)=aI∧∃(aO:GH) (aP:Value) (aQ:Itm) (aR:Value) (aS:Itm) (aT:Value),GLe am aO∧Fr a 52 [(0,(pb b0)),(5,aP),(6,aR)]∧Mem W aO w (ib b0 151 [aT,(iv aM),(iv aN)]::aQ::aS::H)∧Ow R0 2 aO aQ aP aJ∧Ow R0 2 aO aS aR aK∧RSl (RI .u8) aO aT aL) az ⟨_,_,_,_,_,Z,_,aq,ar,aw,av,aa,gr,f.k Z,m,au,ax,ag⟩ ?_
  clear az f m
  rintro aI aU aV aW a w ⟨aJ,aK,aL,aM,aN,rfl,aO,aP,aQ,aR,aS,aT,aX,f,m,aY,aZ,a0⟩
  refine Af (Ae ?_)
  refine Ab f Z λa f=>Bv 1 m aY Z underlying42 f Z Z λa f=>Ah f Z Z Ce λa f=>Aa ?_
  rcases Ad aV with⟨a1,aV⟩|⟨a1,aV⟩
  ·refine Ak f Z a1 ?_
   refine Al ?_
   refine Aj (Ae ?_)
   refine Ab f Z λa f=>Ab f Z λa f=>Bv 1 m aY Z underlying42 f Z Z λa f=> ?_
   have⟨a2,a3,aV⟩:=bind_some aV
   refine Av f Z call174 (Wk.d m a0 a3) λa4 a5 a6 w a7 m a8 a f=> ?_
   obtain⟨a9,rfl,rfl,ba⟩:=a8
   have aY:=od1 a7 aY
   have aZ:=od1 a7 aZ
   refine Ac f Z λa f=>Au ?_
   refine Ab f Z λa f=>Ab f Z λa f=>Ab f Z λa f=> ?_
   have⟨bb,bc,aV⟩:=bind_some aV
   refine A6 1 m aY Z T42 f Z Z Z bc λbd a be f=>BU 1 m aY Z Pl2 f Z Z be bc λbf a bg f=> ?_
   subst bg
   refine AY (R:=R0) (xs:=([bb]:LI)) (RI.one _) m T42 f Z Z Z (by decide) (All2.cons Z (All2.nil _)) λbh bi w a m bj f=> ?_
   have⟨bk,bl,aV⟩:=bind_some aV
   refine Bh (RI.one _) 3 m aZ Z T42 Z (by decide) f Z Z Z (Ow.src (j:=0) bj m Z) bl λbm bn w a m bo f=>Ac f Z λa f=>Aa ?_
   have m:Mem W a5 w (aQ::bh::ib b0 151 [a9,(iv a2.2.2.1),(iv a2.2.2.2)]::bm::H):=m.fr 2
   obtain⟨bp,bq,m,br⟩:=Ow.stamp (RI.mono _) aY m
   have ba:=rd1 bq ba
   have bo:=od1 bq bo
   refine A3 8 Ay (by kernel_rfl) m ?_
   refine Ag 0 8 Z f Z λa f=>Ag 1 8 Z f Z λa f=> ?_
   have⟨bs,bt,aV⟩:=bind_some aV
   refine Fc (i:=2) 8 T42 br bt Z (by kernel_rfl) Z f Z Z Z (.inl ⟨Z,Z⟩) (.inr ⟨_,_,Z,Z⟩) λbu a bv f=>Ag 4 8 Z f Z λa f=>Ag 5 8 Z f Z λa f=>q_p 6 8 Z f (λ_=>AA (f.e Z) (f.e Z) Ar) λa f=> ?_
   have⟨bw,bx,aV⟩:=bind_some aV
   refine Fc (i:=7) 8 T42 br bx Z (by kernel_rfl) Z f Z Z Z (.inr ⟨_,_,Z,Z⟩) (.inl ⟨Z,Z⟩) λbz a bA f=>Bi 3 Z λbB w bC m bD bD=> ?_
   have bv:=rd1 bC bv
   have bA:=rd1 bC bA
   have ba:=rd1 bC ba
   have bo:=od1 bC bo
   have⟨bE,bF,aV⟩:=bind_some aV
   refine Av f Z call69 (Wk.g m bv bF) λbG bH bI w bJ m bK a f=> ?_
   obtain⟨bL,bM,rfl,rfl,bN⟩:=bK
   have bA:=rd1 bJ bA
   have ba:=rd1 bJ ba
   have bo:=od1 bJ bo
   refine Aa ?_
   refine bD bH [bM] _ _ bJ m ?_
   refine AK λbO w bP m=> ?_
   have bA:=rd1 bP bA
   have bN:=od1 bP bN
   have ba:=rd1 bP ba
   have bo:=od1 bP bo
   have⟨bQ,bR,aV⟩:=bind_some aV
   refine Bh (RI.one _) 0 m bN Z T42 Z (by decide) f Z Z Z (bA.src m) bR λbS bT w a m bU f=>Ac f Z λa f=>Aa ?_
   have m:=m.fr 3
   have m:=m.fr 1
   have m:Mem W bO w (ib b0 151 [a9,(iv a2.2.2.1),(iv a2.2.2.2)]::bS::bm::bh::H):=m.fr 3
   have m:Mem W bO w (ib b0 151 [a9,(iv a2.2.2.1),(iv a2.2.2.2)]::bS::bm::H):=m.eraseAt 3
   obtain rfl:=sj aV
   exact⟨_,Z,_,_,_,_,_,Z,_,bT,bS,bn,bm,a9,(gt aX (gt a7 (gt bq (gt bC (gt bJ bP))))),f.k Z,m,bU,bo,ba⟩
  ·refine Ai f Z a1 ?_
   refine Ax Z ?_
   have m:=m.fr 2
   have m:=m.fr 1
   have m:=m.eraseAt 2
   obtain rfl:=sj aV
   obtain rfl:=aW _ rfl
   exact⟨_,_,_,_,Z,_,aR,aS,aT,aX,f.k Z,m,aZ,a0⟩
 ·rintro a w ⟨aA,aB,aC,aD,rfl,aE,aF,aG,aH,bV,f,m,bW,bX⟩
  refine Af (Ae ?_)
  refine Ab f Z λa f=> ?_
  have⟨bY,bZ,hd⟩:=bind_some hd
  refine Av f Z call137 (Wk.v m bX bZ) λb1 b2 b3 w b4 m b5 a f=> ?_
  obtain⟨b6,rfl,rfl,b7⟩:=b5
  have bW:=od1 b4 bW
  refine Ab f Z λa f=> ?_
  refine BJ 4 (λa w=>∃b8,GLe b2 b8∧Mem W b8 w (ib b0 151 [b6,(iv bY.2.2.1),(iv bY.2.2.2)]::aG::H)∧Fr a 52 [(0,(pb b0)),(6,aF),(36,(pb b0)),(37,(.bool bY.1)),(38,(.bool bY.1)),(42,(.bool (bY.1&&(decide ((0:Int)<(aA.length:Int))))))]) ?_ ?_
  ·rcases Bool.eq_false_or_eq_true bY.1 with b9|b9
   ·refine AI f b9 ?_
    refine Ab f Z λa f=>AI f b9 ?_
    refine Bv 1 m bW Z underlying42 f Z Z λa f=>AI f b9 ?_
    refine Ah f Z Z Ce λa f=>l_o f (AU (f.e Z) b9 (f.e Z)) λa f=> ?_
    exact⟨_,gr,m,f.weak ⟨Z,Z,Z,Z,Z,by rw[b9];rfl,trivial⟩⟩
   ·refine AL f b9 λa f=> ?_
    refine AL f b9 λa f=>AL f b9 λa f=>l_o f (AV (f.e Z) b9 (f.e Z)) λa f=> ?_
    exact⟨_,gr,m,f.weak ⟨Z,Z,Z,Z,Z,by rw[b9];rfl,trivial⟩⟩
  ·rintro a w ⟨b8,ca,m,f⟩
   have b7:=rd1 ca b7
   have bW:=od1 ca bW
   refine Aa ?_
   rcases Ad hd with⟨cb,hd⟩|⟨cb,hd⟩
   ·refine Ak f Z cb ?_
    refine Am ?_
    refine Ab f Z λa f=>Ab f Z λa f=>Ab f Z λa f=>Bv 1 m bW Z underlying42 f Z Z λa f=> ?_
    have⟨cc,cd,hd⟩:=bind_some hd
    refine Av f Z call174 (Wk.d m b7 cd) λce cf cg w ch m ci a f=> ?_
    obtain⟨cj,rfl,rfl,ck⟩:=ci
    have bW:=od1 ch bW
    refine Ab f Z λa f=> ?_
    have⟨cl,cm,hd⟩:=bind_some hd
    refine Av f Z call176 (Wk.d1 m ck cm) λcn co cp w cq m cr a f=> ?_
    obtain⟨ct,rfl,rfl,cu⟩:=cr
    have bW:=od1 cq bW
    have⟨cv,cw,hd⟩:=bind_some hd
    refine A6 1 m bW Z T42 f Z Z Z cw λcx a cy f=>Aw 1 m bW Z sizeOf2 f Z Z cy cw Z Z Z λcz w m cA=>Au ?_
    refine Ab f Z λa f=>Ac f Z λa f=>Aa ?_
    refine Ap ?_
    have m:Mem W co w (cz::ib b0 151 [ct,(iv cl.2.2.1),(iv cl.2.2.2)]::H):=m.fr 1
    obtain rfl:=sj hd
    exact⟨[aF],f.g Z,f.d,_,[cz,ib b0 151 [ct,(iv cl.2.2.1),(iv cl.2.2.2)]],(gt ao (gt bV (gt b4 (gt ca (gt ch cq))))),m,_,_,_,Z,Z,cA,cu⟩
   ·refine Ai f Z cb ?_
    refine Al ?_
    refine Ae ?_
    refine Ab f Z λa f=>Ac f Z λa f=>Aa ?_
    refine Ap ?_
    have m:Mem W b8 w (aG::ib b0 151 [b6,(iv bY.2.2.1),(iv bY.2.2.2)]::H):=m.fr 1
    obtain rfl:=sj hd
    exact⟨[aF],f.g Z,f.d,_,[aG,ib b0 151 [b6,(iv bY.2.2.1),(iv bY.2.2.2)]],(gt ao (gt bV (gt b4 ca))),m,_,_,_,Z,Z,bW,b7⟩
end Go.Proofs.YtebbefpdncgoiaaGreatDoor

set_option maxRecDepth 100000
namespace Go.Proofs.YtebbefpdncgoiaaGreatDoor
open Go Go.Sx
open Go.Proofs.Tryz Go.Proofs.YtebbefpdncgoiaaGreatDoor.Tryz IntKind
variable {W w : World} {G : GH} {H : List Itm}
theorem Pl4 :CE prog 4:=isAgg4
theorem T142 :SlT prog 142 4 1 1 (.bool false):=⟨underlying142,Tryz.t4,by kernel_rfl,by kernel_rfl,by kernel_rfl,by kernel_rfl⟩
theorem T73 :SlT prog 73 76 1 4 (.int .u32 0):=⟨underlying73,Tryz.t76,by kernel_rfl,by kernel_rfl,by kernel_rfl,by kernel_rfl⟩
theorem Wk.a {aa:Value}{ab:LL}(m:Mem W G w (H))(ac:R2 G aa ab){y:Int}(hd:D.a ab=some y):
  Calls prog 80 #[(.agg #[aa])] w (Res W G H (λ_ Ho v=>Ho=[]∧v=(iv y))):=by
 refine As (args:=[(.agg #[aa])]) (N:=6) [.tmp 2] func80 Z Z (lb Z) Z λa f=> ?_
 unfold D.a at hd
 refine Ae ?_
 refine By (cs:=[aa]) m f Z Z Z λad w a m f=>Ac f Z λa f=>Au ?_
 refine Bu underlying30 Z sizeOf22 f Z λa f=>AJ 0 0 m Bd f Z Z Z Z λa f=>A5 underlying22 f Z Z ac λa f=>Ac f Z λa f=>Aa ?_
 refine Ap ?_
 have m:Mem W G w H:=Mem.drop (H':=[ib ad 30 [aa]]) m
 obtain rfl:=sj hd
 exact⟨[(iv (ab.length:Int))],f.g Z,f.d,_,[],gr,m,Z,Z⟩
theorem Wk.c0 {v0:Value}{x0:LI}{x1:Int}(m:Mem W G w (H))(h0:R1 G v0 x0){y:Bool}(hd:D.c0 x0 x1=some y):
  Calls prog 79 #[v0,(iv x1)] w (Res W G H (λ_ Ho v=>Ho=[]∧v=(.bool y))):=by
 refine As (args:=[v0,(iv x1)]) (N:=40) [.tmp 4] func79 Z Z (lb Z) Z λa f=> ?_
 unfold D.c0 at hd
 refine Ae ?_
 refine Ac f Z λa f=>Aa (Af (Ae ?_))
 refine Ab f Z λa f=>A5 underlying42 f Z Z h0 λa f=>Ab f Z λa f=>Ah f Z Z Ce λa f=>Aa ?_
 rcases Ad hd with⟨aa,hd⟩|⟨aa,hd⟩
 ·refine Ak f Z aa ?_
  refine Ae ?_
  refine Ac f Z λa f=>Aa ?_
  refine Ap ?_
  obtain rfl:=sj hd
  exact⟨[(.bool false)],f.g Z,f.d,_,[],gr,m,Z,Z⟩
 ·refine Ai f Z aa ?_
  refine Al ?_
  refine Af (Ae ?_)
  refine Ac f Z λa f=>Aa ?_
  have⟨ab,ac,hd⟩:=bind_some hd
  refine AF (λa w=>∃q_150':Unit,ab= .inl q_150'∧∃(ad:GH),GLe G ad∧Fr a 40 []∧Mem W ad w (H)) ?_ ?_
  ·refine Aj ?_
   refine AD (λae a w=>∃af:Int,af=ae∧∃(ag:GH),GLe G ag∧Fr a 40 [(0,v0),(1,(iv x1)),(5,(iv af))]∧Mem W ag w (H)) ac ⟨_,Z,_,gr,f.k Z,m⟩ ?_
   clear ac f m
   rintro ae ah ai aj a w ⟨af,rfl,ag,ak,f,m⟩
   have h0:=rd1 ak h0
   refine Af (Ae ?_)
   refine Ab f Z λa f=>Ab f Z λa f=>A5 underlying42 f Z Z h0 λa f=>Ah f Z Z AH λa f=>Aa ?_
   rcases Ad ai with⟨al,ai⟩|⟨al,ai⟩
   ·refine Ak f Z al ?_
    refine Al ?_
    refine Af (Aj (Af ?_))
    refine A3 24 Ay (by kernel_rfl) m ?_
    refine Ag 0 24 Z f Z λa f=>Ag 1 24 Z f Z λa f=> ?_
    have⟨am,an,ai⟩:=bind_some ai
    refine Cj 2 24 T42 h0 an Z f Z Z λao ap a aq ar f=> ?_
    subst ar
    refine Ck 3 24 Pl2 aq Z f Z λa f=>Ag 4 24 Z f Z λa f=>q_p 5 24 Z f (λ_=>AA (f.e Z) (f.e Z) AO) λa f=> ?_
    have⟨au,av,ai⟩:=bind_some ai
    refine BX (i:=6) 24 Z (by kernel_rfl) Z f Z Z Z call141 (λ_ _ w aw m=>Wk.f m av) λa f=>q_p 7 24 Z f (λ_=>Bj (f.e Z)) λa f=>Ag 8 24 Z f Z λa f=> ?_
    have⟨ax,ay,ai⟩:=bind_some ai
    refine BZ (fuel':=0) (listed':= #[true,true,true,true,true,true,true,true,true,true,true,true,true,true,true,true,true,true,true,true,true,true,true,true]) (λa=>Fr a 40 [(0,v0),(1,(iv x1)),(5,(iv af)),(13,(.bool (decide (af<(x0.length:Int))))),(16,v0),(17,(iv af)),(18,ao),(19,(iv am)),(20,(iv x1)),(21,(iv (i64.wrap (x1-1)))),(22,(.bool au)),(23,(.bool (!au))),(24,(.bool (!au))),(39,(.bool ax))]) ?_ ?_
    ·intro a f
     refine AK λaz w aA m=>Aa ?_
     rcases Ad ai with⟨aB,ai⟩|⟨aB,ai⟩
     ·refine Ak f Z aB ?_
      refine Ae ?_
      refine Ac f Z λa f=>Aa ?_
      refine Ap ?_
      obtain rfl:=sj ai
      obtain rfl:=aj _ rfl
      obtain rfl:=sj hd
      exact⟨[(.bool false)],f.g Z,f.d,_,[],(gt ak aA),m,Z,Z⟩
     ·refine Ai f Z aB ?_
      refine Al ?_
      refine Am ?_
      refine Ab f Z λa f=>Ah f Z Z Ar λa f=>Ac f Z λa f=>Aa ?_
      obtain rfl:=sj ai
      exact⟨_,Z,_,Z,_,(gt ak aA),f.k Z,m⟩
    ·intro aC
     rcases Ad ay with⟨aD,ay⟩|⟨aD,ay⟩
     ·refine Ao 9 24 Z f aD λa f=> ?_
      refine Ao 10 24 Z f aD λa f=>Ao 11 24 Z f aD λa f=>DD 12 24 Z f λa f=>DD 13 24 Z f λa f=>DD 14 24 Z f λa f=>DD 15 24 Z f λa f=>DD 16 24 Z f λa f=>DD 17 24 Z f λa f=>DD 18 24 Z f λa f=>DD 19 24 Z f λa f=>DD 20 24 Z f λa f=>DD 21 24 Z f λa f=>Ao 22 24 Z f aD λa f=>q_p 23 24 Z f (λ_=>AU (f.e Z) aD (f.e Z)) λa f=> ?_
      obtain rfl:=sj ay
      exact aC _ (f.k Z)
     ·refine Ag (hw:=wo f aD) 9 24 Z f Z λa f=> ?_
      refine q_p (hw:=wo f aD) 10 24 Z f (λ_=>AA (f.e Z) (f.e Z) Ce) λa f=>Ag (hw:=wo f aD) 11 24 Z f Z λa f=> ?_
      have⟨aE,aF,ay⟩:=bind_some ay
      refine BZ (fuel':=1) (listed':= #[true,true,true,true,true,true,true,true,true,true,true,true,true,true,true,true,true,true,true,true,true,true,true,false]) (λa=>Fr a 40 [(0,v0),(1,(iv x1)),(5,(iv af)),(13,(.bool (decide (af<(x0.length:Int))))),(16,v0),(17,(iv af)),(18,ao),(19,(iv am)),(20,(iv x1)),(21,(iv (i64.wrap (x1-1)))),(22,(.bool au)),(23,(.bool (!au))),(24,(.bool (!au))),(25,(iv af)),(26,(.bool (decide ((0:Int)<af)))),(27,(.bool (decide ((0:Int)<af)))),(38,(.bool aE))]) ?_ ?_
      ·intro a f
       refine q_p 23 24 Z f (λ_=>AV (f.e Z) aD (f.e Z)) λa f=> ?_
       obtain rfl:=sj ay
       exact aC _ (f.k Z)
      ·intro aG
       rcases Ad aF with⟨aH,aF⟩|⟨aH,aF⟩
       ·refine Ag (hw:=wo f aH) 12 24 Z f Z λa f=> ?_
        refine Ag (hw:=wo f aH) 13 24 Z f Z λa f=> ?_
        have⟨aI,aJ,aF⟩:=bind_some aF
        refine Cj (hw:=wo f aH) 14 24 T42 h0 aJ Z f Z Z λaK aL a aM aN f=> ?_
        subst aN
        refine Ck (hw:=wo f aH) 15 24 Pl2 aM Z f Z λa f=>Ag (hw:=wo f aH) 16 24 Z f Z λa f=>Ag (hw:=wo f aH) 17 24 Z f Z λa f=>q_p (hw:=wo f aH) 18 24 Z f (λ_=>AA (f.e Z) (f.e Z) AO) λa f=> ?_
        have⟨aO,aP,aF⟩:=bind_some aF
        refine Cj (hw:=wo f aH) 19 24 T42 h0 aP Z f Z Z λaQ aR a aS aT f=> ?_
        subst aT
        refine Ck (hw:=wo f aH) 20 24 Pl2 aS Z f Z λa f=>q_p (hw:=wo f aH) 21 24 Z f (λ_=>AA (f.e Z) (f.e Z) Ci) λa f=>q_p (hw:=wo f aD) 22 24 Z f (λ_=>AU (f.e Z) aH (f.e Z)) λa f=> ?_
        obtain rfl:=sj aF
        exact aG _ (f.k Z)
       ·refine Ao 12 24 Z f aH λa f=> ?_
        refine Ao 13 24 Z f aH λa f=>Ao 14 24 Z f aH λa f=>Ao 15 24 Z f aH λa f=>Ao 16 24 Z f aH λa f=>Ao 17 24 Z f aH λa f=>Ao 18 24 Z f aH λa f=>Ao 19 24 Z f aH λa f=>Ao 20 24 Z f aH λa f=>Ao 21 24 Z f aH λa f=>q_p (hw:=wo f aD) 22 24 Z f (λ_=>AV (f.e Z) aH (f.e Z)) λa f=> ?_
        obtain rfl:=sj aF
        exact aG _ (f.k Z)
   ·refine Ai f Z al ?_
    refine Ax Z ?_
    obtain rfl:=sj ai
    obtain rfl:=aj _ rfl
    exact⟨_,Z,_,ak,f.weak trivial,m⟩
  ·rintro a w ⟨_,rfl,ad,aU,f,m⟩
   refine Ae ?_
   refine Ac f Z λa f=>Aa ?_
   refine Ap ?_
   obtain rfl:=sj hd
   exact⟨[(.bool true)],f.g Z,f.d,_,[],aU,m,Z,Z⟩
theorem Wk.i {v0:Value}{x0:LI}{x1:Int}(m:Mem W G w (H))(h0:R1 G v0 x0){y:Bool}(hd:D.i x0 x1=some y):
  Calls prog 70 #[v0,(iv x1)] w (Res W G H (λ_ Ho v=>Ho=[]∧v=(.bool y))):=by
 refine As (args:=[v0,(iv x1)]) (N:=18) [.tmp 4] func70 Z Z (lb Z) Z λa f=> ?_
 unfold D.i at hd
 refine Ae ?_
 refine Ac f Z λa f=>Aa (Af (Ae ?_))
 refine Ac f Z λa f=>Aa ?_
 have⟨aa,ab,hd⟩:=bind_some hd
 refine AF (λa w=>∃q_19':Unit,aa= .inl q_19'∧∃(ac:GH),GLe G ac∧Fr a 18 []∧Mem W ac w (H)) ?_ ?_
 ·refine Aj ?_
  refine AD (λad a w=>∃ae:Int,ae=ad∧∃(af:GH),GLe G af∧Fr a 18 [(0,v0),(1,(iv x1)),(5,(iv ae))]∧Mem W af w (H)) ab ⟨_,Z,_,gr,f.k Z,m⟩ ?_
  clear ab f m
  rintro ad ag ah ai a w ⟨ae,rfl,af,aj,f,m⟩
  have h0:=rd1 aj h0
  refine Af (Ae ?_)
  refine Ab f Z λa f=>Ab f Z λa f=>A5 underlying42 f Z Z h0 λa f=>Ah f Z Z AH λa f=>Aa ?_
  rcases Ad ah with⟨ak,ah⟩|⟨ak,ah⟩
  ·refine Ak f Z ak ?_
   refine Al ?_
   refine Af (Aj (Ae ?_))
   refine Ab f Z λa f=>Ab f Z λa f=> ?_
   have⟨al,am,ah⟩:=bind_some ah
   refine Bl T42 f Z Z Z h0 am λan ao a ap aq f=> ?_
   subst aq
   refine AM m Pl2 f Z Z ap λa f=>Ab f Z λa f=>Ah f Z Z Bq λa f=>Aa ?_
   rcases Ad ah with⟨ar,ah⟩|⟨ar,ah⟩
   ·refine Ak f Z ar ?_
    refine Ae ?_
    refine Ac f Z λa f=>Aa ?_
    refine Ap ?_
    obtain rfl:=sj ah
    obtain rfl:=ai _ rfl
    obtain rfl:=sj hd
    exact⟨[(.bool true)],f.g Z,f.d,_,[],aj,m,Z,Z⟩
   ·refine Ai f Z ar ?_
    refine Al ?_
    refine Am ?_
    refine Ab f Z λa f=>Ah f Z Z Ar λa f=>Ac f Z λa f=>Aa ?_
    obtain rfl:=sj ah
    exact⟨_,Z,_,Z,_,aj,f.k Z,m⟩
  ·refine Ai f Z ak ?_
   refine Ax Z ?_
   obtain rfl:=sj ah
   obtain rfl:=ai _ rfl
   exact⟨_,Z,_,aj,f.weak trivial,m⟩
 ·rintro a w ⟨_,rfl,ac,au,f,m⟩
  refine Ae ?_
  refine Ac f Z λa f=>Aa ?_
  refine Ap ?_
  obtain rfl:=sj hd
  exact⟨[(.bool false)],f.g Z,f.d,_,[],au,m,Z,Z⟩
theorem Wk.J {aa:Value}{ab:LL}(m:Mem W G w (H))(ac:R2 G aa ab){y:Bool}(hd:D.J ab=some y):
  Calls prog 77 #[(.agg #[aa])] w (Res W G H (λ_ Ho v=>Ho=[]∧v=(.bool y))):=by
 refine As (args:=[(.agg #[aa])]) (N:=64) [.tmp 2] func77 Z Z (lb Z) Z λa f=> ?_
 unfold D.J at hd
 refine Ae ?_
 refine By (cs:=[aa]) m f Z Z Z λad w a m f=>Ac f Z λa f=>Au ?_
 refine AT 0 0 (ds:=[aa]) m A8 f Z Z Z Z Z λa f=> ?_
 have⟨ae,af,hd⟩:=bind_some hd
 refine Bf f Z call80 (Wk.a m ac af) λag w ah m a f=> ?_
 have ac:=rd2 ah ac
 refine Ac f Z λa f=>Aa (Af (Ae ?_))
 refine Ab f Z λa f=> ?_
 have⟨ai,aj,hd⟩:=bind_some hd
 refine Bf f Z call141 (Wk.f m aj) λak w al m a f=> ?_
 have ac:=rd2 al ac
 refine l_o f (Bj (f.e Z)) λa f=>Aa ?_
 rcases Ad hd with⟨am,hd⟩|⟨am,hd⟩
 ·refine Ak f Z am ?_
  refine Ae ?_
  refine Ac f Z λa f=>Aa ?_
  refine Ap ?_
  have m:Mem W ak w H:=Mem.drop (H':=[ib ad 30 [aa]]) m
  obtain rfl:=sj hd
  exact⟨[(.bool false)],f.g Z,f.d,_,[],(gt ah al),m,Z,Z⟩
 ·refine Ai f Z am ?_
  refine Al ?_
  refine Af (Ae ?_)
  refine Ac f Z λa f=>Aa ?_
  have⟨an,ao,hd⟩:=bind_some hd
  refine AF (λa w=>∃q_138':Unit,an= .inl q_138'∧∃(ap:GH),GLe ak ap∧Fr a 64 [(1,(pb ad)),(3,(iv ae))]∧Mem W ap w (ib ad 30 [aa]::H)) ?_ ?_
  ·refine Aj ?_
   refine AD (λaq a w=>∃ar:Int,ar=aq∧∃(au:GH),GLe ak au∧Fr a 64 [(1,(pb ad)),(3,(iv ae)),(4,(iv ar))]∧Mem W au w (ib ad 30 [aa]::H)) ao ⟨_,Z,_,gr,f.k Z,m⟩ ?_
   clear ao f m
   rintro aq av aw ax a w ⟨ar,rfl,au,ay,f,m⟩
   have ac:=rd2 ay ac
   refine Af (Ae ?_)
   refine Ab f Z λa f=>Ab f Z λa f=>Ah f Z Z AH λa f=>Aa ?_
   rcases Ad aw with⟨az,aw⟩|⟨az,aw⟩
   ·refine Ak f Z az ?_
    refine Al ?_
    refine Af (Aj (Ae ?_))
    refine Bu underlying30 Z sizeOf22 f Z λa f=>AJ 0 0 m Bd f Z Z Z Z λa f=>Ab f Z λa f=> ?_
    have⟨aA,aB,aw⟩:=bind_some aw
    refine Bl T22 f Z Z Z ac aB λaC aD a aE aF f=>AM m AZ f Z Z aE λa f=>Ab f Z λa f=> ?_
    have⟨aG,aH,aw⟩:=bind_some aw
    refine Bf f Z call79 (Wk.c0 m aF aH) λaI w aJ m a f=> ?_
    have ac:=rd2 aJ ac
    refine l_o f (Bj (f.e Z)) λa f=>Ab f Z λa f=> ?_
    have⟨aK,aL,aw⟩:=bind_some aw
    refine BJ 8 (λa w=>∃aM,GLe aI aM∧Mem W aM w (ib ad 30 [aa]::H)∧Fr a 64 [(1,(pb ad)),(3,(iv ae)),(4,(iv ar)),(14,(.bool (decide (ar<ae)))),(17,(pb ad)),(18,aa),(19,(iv ar)),(20,aC),(21,aD),(22,(iv ae)),(23,(.bool aG)),(24,(.bool (!aG))),(25,(.bool (!aG))),(33,(.bool aK))]) ?_ ?_
    ·rcases Ad aL with⟨aN,aL⟩|⟨aN,aL⟩
     ·refine AL f aN λa f=> ?_
      refine AL f aN λa f=>AL f aN λa f=>AL f aN λa f=>AL f aN λa f=>AL f aN λa f=>AL f aN λa f=>l_o f (AU (f.e Z) aN (f.e Z)) λa f=> ?_
      obtain rfl:=sj aL
      exact⟨_,gr,m,f.k Z⟩
     ·refine AI f aN ?_
      refine Bu underlying30 Z sizeOf22 f Z λa f=>AI f aN ?_
      refine AJ 0 0 m Bd f Z Z Z Z λa f=>AI f aN ?_
      refine Ab f Z λa f=>AI f aN ?_
      have⟨aO,aP,aL⟩:=bind_some aL
      refine Bl T22 f Z Z Z ac aP λaQ aR a aS aT f=>AI f aN ?_
      refine AM m AZ f Z Z aS λa f=>AI f aN ?_
      refine Ab f Z λa f=>AI f aN ?_
      have⟨aU,aV,aL⟩:=bind_some aL
      refine Bf f Z call70 (Wk.i m aT aV) λaW w aX m a f=>l_o f (AV (f.e Z) aN (f.e Z)) λa f=> ?_
      obtain rfl:=sj aL
      exact⟨_,aX,m,f.k Z⟩
    ·rintro a w ⟨aM,aY,m,f⟩
     refine Aa ?_
     rcases Ad aw with⟨aZ,aw⟩|⟨aZ,aw⟩
     ·refine Ak f Z aZ ?_
      refine Ae ?_
      refine Ac f Z λa f=>Aa ?_
      refine Ap ?_
      have m:Mem W aM w H:=Mem.drop (H':=[ib ad 30 [aa]]) m
      obtain rfl:=sj aw
      obtain rfl:=ax _ rfl
      obtain rfl:=sj hd
      exact⟨[(.bool false)],f.g Z,f.d,_,[],(gt ah (gt al (gt ay (gt aJ aY)))),m,Z,Z⟩
     ·refine Ai f Z aZ ?_
      refine Al ?_
      refine Am ?_
      refine Ab f Z λa f=>Ah f Z Z Ar λa f=>Ac f Z λa f=>Aa ?_
      obtain rfl:=sj aw
      exact⟨_,Z,_,Z,_,(gt ay (gt aJ aY)),f.k Z,m⟩
   ·refine Ai f Z az ?_
    refine Ax Z ?_
    obtain rfl:=sj aw
    obtain rfl:=ax _ rfl
    exact⟨_,Z,_,ay,f.k Z,m⟩
  ·rintro a w ⟨_,rfl,ap,a0,f,m⟩
   have ac:=rd2 a0 ac
   refine Af (Ae ?_)
   refine Ac f Z λa f=>Aa ?_
   have⟨a1,a2,hd⟩:=bind_some hd
   refine AF (λa w=>∃q_545':Unit,a1= .inl q_545'∧∃(a3:GH),GLe ap a3∧Fr a 64 []∧Mem W a3 w (H)) ?_ ?_
   ·refine Aj ?_
    refine AD (λa4 a w=>∃a5:Int,a5=a4∧∃(a6:GH),GLe ap a6∧Fr a 64 [(1,(pb ad)),(3,(iv ae)),(5,(iv a5))]∧Mem W a6 w (ib ad 30 [aa]::H)) a2 ⟨_,Z,_,gr,f.k Z,m⟩ ?_
    clear a2 f m
    rintro a4 a7 a8 a9 a w ⟨a5,rfl,a6,ba,f,m⟩
    have ac:=rd2 ba ac
    refine Af (Ae ?_)
    refine Ab f Z λa f=>Ab f Z λa f=>Ah f Z Z AH λa f=>Aa ?_
    rcases Ad a8 with⟨bb,a8⟩|⟨bb,a8⟩
    ·refine Ak f Z bb ?_
     refine Al ?_
     refine Af (Aj (Ae ?_))
     refine Ac f Z λa f=>Aa ?_
     have⟨bc,bd,a8⟩:=bind_some a8
     refine AF (λa w=>∃q_759':Unit,bc= .inl q_759'∧∃(be:GH),GLe a6 be∧Fr a 64 [(1,(pb ad)),(3,(iv ae)),(5,(iv a5))]∧Mem W be w (ib ad 30 [aa]::H)) ?_ ?_
     ·refine Aj ?_
      refine AD (λbf a w=>∃bg:Int,bg=bf∧∃(bh:GH),GLe a6 bh∧Fr a 64 [(1,(pb ad)),(3,(iv ae)),(5,(iv a5)),(6,(iv bg))]∧Mem W bh w (ib ad 30 [aa]::H)) bd ⟨_,Z,_,gr,f.k Z,m⟩ ?_
      clear bd f m
      rintro bf bi bj bk a w ⟨bg,rfl,bh,bl,f,m⟩
      have ac:=rd2 bl ac
      refine Af (Ae ?_)
      refine Ab f Z λa f=>Bu underlying30 Z sizeOf22 f Z λa f=>AJ 0 0 m Bd f Z Z Z Z λa f=>Ab f Z λa f=> ?_
      have⟨bm,bn,bj⟩:=bind_some bj
      refine Bl T22 f Z Z Z ac bn λbo bp a bq br f=>AM m AZ f Z Z bq λa f=>A5 underlying42 f Z Z br λa f=>Ah f Z Z AH λa f=>Aa ?_
      rcases Ad bj with⟨bs,bj⟩|⟨bs,bj⟩
      ·refine Ak f Z bs ?_
       refine Al ?_
       refine Af (Aj (Af ?_))
       refine A3 15 Ay (by kernel_rfl) m ?_
       refine B9 0 15 underlying30 Z sizeOf22 Z f Z λa f=>BQ 1 15 0 Bd Z Z Z f Z λa f=>B9 2 15 underlying30 Z sizeOf22 Z f Z λa f=>BQ 3 15 0 Bd Z Z Z f Z λa f=>Ag 4 15 Z f Z λa f=> ?_
       have⟨bt,bu,bj⟩:=bind_some bj
       refine Cj 5 15 T22 ac bu Z f Z Z λbv bw a bx bz f=>Ck 6 15 AZ bx Z f Z λa f=>Ag 7 15 Z f Z λa f=> ?_
       have⟨bA,bB,bj⟩:=bind_some bj
       refine Cj 8 15 T42 bz bB Z f Z Z λbC bD a bE bF f=> ?_
       subst bF
       refine Ck 9 15 Pl2 bE Z f Z λa f=> ?_
       have⟨bG,bH,bj⟩:=bind_some bj
       refine Cj 10 15 T22 ac bH Z f Z Z λbI bJ a bK bL f=>Ck 11 15 AZ bK Z f Z λa f=>Ag 12 15 Z f Z λa f=> ?_
       have⟨bM,bN,bj⟩:=bind_some bj
       refine BX (i:=13) 15 Z (by kernel_rfl) Z f Z Z Z call70 (λ_ _ w bO m=>Wk.i m (rd1 bO bL) bN) λa f=>q_p 14 15 Z f (λ_=>Bj (f.e Z)) λa f=>AK λbP w bQ m=>Aa ?_
       rcases Ad bj with⟨bR,bj⟩|⟨bR,bj⟩
       ·refine Ak f Z bR ?_
        refine Ae ?_
        refine Ac f Z λa f=>Aa ?_
        refine Ap ?_
        have m:Mem W bP w H:=Mem.drop (H':=[ib ad 30 [aa]]) m
        obtain rfl:=sj bj
        obtain rfl:=bk _ rfl
        obtain rfl:=sj a8
        obtain rfl:=a9 _ rfl
        obtain rfl:=sj hd
        exact⟨[(.bool false)],f.g Z,f.d,_,[],(gt ah (gt al (gt a0 (gt ba (gt bl bQ))))),m,Z,Z⟩
       ·refine Ai f Z bR ?_
        refine Al ?_
        refine Am ?_
        refine Ab f Z λa f=>Ah f Z Z Ar λa f=>Ac f Z λa f=>Aa ?_
        obtain rfl:=sj bj
        exact⟨_,Z,_,Z,_,(gt bl bQ),f.k Z,m⟩
      ·refine Ai f Z bs ?_
       refine Ax Z ?_
       obtain rfl:=sj bj
       obtain rfl:=bk _ rfl
       exact⟨_,Z,_,bl,f.k Z,m⟩
     ·rintro a w ⟨_,rfl,be,bS,f,m⟩
      refine Am ?_
      refine Ab f Z λa f=>Ah f Z Z Ar λa f=>Ac f Z λa f=>Aa ?_
      obtain rfl:=sj a8
      exact⟨_,Z,_,Z,_,(gt ba bS),f.k Z,m⟩
    ·refine Ai f Z bb ?_
     refine Ax Z ?_
     have m:Mem W a6 w H:=Mem.drop (H':=[ib ad 30 [aa]]) m
     obtain rfl:=sj a8
     obtain rfl:=a9 _ rfl
     exact⟨_,Z,_,ba,f.weak trivial,m⟩
   ·rintro a w ⟨_,rfl,a3,bT,f,m⟩
    refine Ae ?_
    refine Ac f Z λa f=>Aa ?_
    refine Ap ?_
    obtain rfl:=sj hd
    exact⟨[(.bool true)],f.g Z,f.d,_,[],(gt ah (gt al (gt a0 bT))),m,Z,Z⟩
theorem Wk.I1 {aa:Value}{ab:LL}{x1:Int}(m:Mem W G w (H))(ac:R2 G aa ab){y:Bool}(hd:D.I1 ab x1=some y):
  Calls prog 149 #[(.agg #[aa]),(iv x1)] w (Res W G H (λ_ Ho v=>Ho=[]∧v=(.bool y))):=by
 refine As (args:=[(.agg #[aa]),(iv x1)]) (N:=10) [.tmp 4] func149 Z Z (lb Z) Z λa f=> ?_
 unfold D.I1 at hd
 refine Ae ?_
 refine By (cs:=[aa]) m f Z Z Z λad w a m f=>Ac f Z λa f=>Au ?_
 refine Ab f Z λa f=>AT 0 0 (ds:=[aa]) m A8 f Z Z Z Z Z λa f=> ?_
 have⟨ae,af,hd⟩:=bind_some hd
 refine Bf f Z call80 (Wk.a m ac af) λag w ah m a f=>Ah f Z Z AO λa f=> ?_
 have⟨ai,aj,hd⟩:=bind_some hd
 refine Bf f Z call141 (Wk.f m aj) λak w al m a f=>Ac f Z λa f=>Aa ?_
 refine Ap ?_
 have m:Mem W ak w H:=Mem.drop (H':=[ib ad 30 [aa]]) m
 obtain rfl:=sj hd
 exact⟨[(.bool ai)],f.g Z,f.d,_,[],(gt ah al),m,Z,Z⟩
theorem Wk.N1 {aa v1:Value}{ab:LL}{x1:LI}(m:Mem W G w (H))(ac:R2 G aa ab)(h1:R1 G v1 x1){y:Bool}(hd:D.N1 ab x1=some y):
  Calls prog 108 #[(.agg #[aa]),v1] w (Res W G H (λ_ Ho v=>Ho=[]∧v=(.bool y))):=by
 refine As (args:=[(.agg #[aa]),v1]) (N:=34) [.tmp 4] func108 Z Z (lb Z) Z λa f=> ?_
 unfold D.N1 at hd
 refine Ae ?_
 refine By (cs:=[aa]) m f Z Z Z λad w a m f=>Ac f Z λa f=>Aa (Af (Ae ?_))
 refine Ab f Z λa f=>A5 underlying42 f Z Z h1 λa f=>AT 0 0 (ds:=[aa]) m A8 f Z Z Z Z Z λa f=> ?_
 have⟨ae,af,hd⟩:=bind_some hd
 refine Bf f Z call80 (Wk.a m ac af) λag w ah m a f=> ?_
 have ac:=rd2 ah ac
 have h1:=rd1 ah h1
 refine Ah f Z Z C4 λa f=>Aa ?_
 rcases Ad hd with⟨ai,hd⟩|⟨ai,hd⟩
 ·refine Ak f Z ai ?_
  refine Ae ?_
  refine Ac f Z λa f=>Aa ?_
  refine Ap ?_
  have m:Mem W ag w H:=Mem.drop (H':=[ib ad 30 [aa]]) m
  obtain rfl:=sj hd
  exact⟨[(.bool false)],f.g Z,f.d,_,[],ah,m,Z,Z⟩
 ·refine Ai f Z ai ?_
  refine Al ?_
  refine Af (Ae ?_)
  refine Ac f Z λa f=>Aa ?_
  have⟨aj,ak,hd⟩:=bind_some hd
  refine AF (λa w=>∃q_99':Unit,aj= .inl q_99'∧∃(al:GH),GLe ag al∧Fr a 34 []∧Mem W al w (H)) ?_ ?_
  ·refine Aj ?_
   refine AD (λam a w=>∃an:Int,an=am∧∃(ao:GH),GLe ag ao∧Fr a 34 [(1,v1),(2,(pb ad)),(5,(iv an))]∧Mem W ao w (ib ad 30 [aa]::H)) ak ⟨_,Z,_,gr,f.k Z,m⟩ ?_
   clear ak f m
   rintro am ap aq ar a w ⟨an,rfl,ao,au,f,m⟩
   have h1:=rd1 au h1
   have ac:=rd2 au ac
   refine Af (Ae ?_)
   refine Ab f Z λa f=>Ab f Z λa f=>A5 underlying42 f Z Z h1 λa f=>Ah f Z Z AH λa f=>Aa ?_
   rcases Ad aq with⟨av,aq⟩|⟨av,aq⟩
   ·refine Ak f Z av ?_
    refine Al ?_
    refine Af (Aj (Af ?_))
    refine A3 17 Ay (by kernel_rfl) m ?_
    refine BH (i:=0) (ds:=[aa]) 17 0 A8 Z Z Z Z (by kernel_rfl) Z f Z Z Z λa f=>Ag 1 17 Z f Z λa f=>Ag 2 17 Z f Z λa f=> ?_
    have⟨aw,ax,aq⟩:=bind_some aq
    refine Cj 3 17 T42 h1 ax Z f Z Z λay az a aA aB f=> ?_
    subst aB
    refine Ck 4 17 Pl2 aA Z f Z λa f=> ?_
    have⟨aC,aD,aq⟩:=bind_some aq
    refine BX (i:=5) 17 Z (by kernel_rfl) Z f Z Z Z call149 (λ_ _ w aE m=>Wk.I1 m (rd2 aE ac) aD) λa f=>q_p 6 17 Z f (λ_=>Bj (f.e Z)) λa f=>Ag 7 17 Z f Z λa f=> ?_
    have⟨aF,aG,aq⟩:=bind_some aq
    refine BZ (fuel':=0) (listed':= #[true,true,true,true,true,true,true,true,true,true,true,true,true,true,true,true,true]) (λa=>Fr a 34 [(1,v1),(2,(pb ad)),(5,(iv an)),(14,(.bool (decide (an<(x1.length:Int))))),(17,(.agg #[aa])),(18,v1),(19,(iv an)),(20,ay),(21,(iv aw)),(22,(.bool aC)),(23,(.bool (!aC))),(24,(.bool (!aC))),(33,(.bool aF))]) ?_ ?_
    ·intro a f
     refine AK λaH w aI m=>Aa ?_
     rcases Ad aq with⟨aJ,aq⟩|⟨aJ,aq⟩
     ·refine Ak f Z aJ ?_
      refine Ae ?_
      refine Ac f Z λa f=>Aa ?_
      refine Ap ?_
      have m:Mem W aH w H:=Mem.drop (H':=[ib ad 30 [aa]]) m
      obtain rfl:=sj aq
      obtain rfl:=ar _ rfl
      obtain rfl:=sj hd
      exact⟨[(.bool false)],f.g Z,f.d,_,[],(gt ah (gt au aI)),m,Z,Z⟩
     ·refine Ai f Z aJ ?_
      refine Al ?_
      refine Am ?_
      refine Ab f Z λa f=>Ah f Z Z Ar λa f=>Ac f Z λa f=>Aa ?_
      obtain rfl:=sj aq
      exact⟨_,Z,_,Z,_,(gt au aI),f.k Z,m⟩
    ·intro aK
     rcases Ad aG with⟨aL,aG⟩|⟨aL,aG⟩
     ·refine Ao 8 17 Z f aL λa f=> ?_
      refine Ao 9 17 Z f aL λa f=>Ao 10 17 Z f aL λa f=>Ao 11 17 Z f aL λa f=>Ao 12 17 Z f aL λa f=>Ao 13 17 Z f aL λa f=>Ao 14 17 Z f aL λa f=>Ao 15 17 Z f aL λa f=>q_p 16 17 Z f (λ_=>AU (f.e Z) aL (f.e Z)) λa f=> ?_
      obtain rfl:=sj aG
      exact aK _ (f.k Z)
     ·refine Ag (hw:=wo f aL) 8 17 Z f Z λa f=> ?_
      refine Ag (hw:=wo f aL) 9 17 Z f Z λa f=> ?_
      have⟨aM,aN,aG⟩:=bind_some aG
      refine Fc (i:=10) 17 T42 h1 aN Z (by kernel_rfl) Z f (Ba f Z Z Z aL) Z Z (.inl ⟨Z,Z⟩) (.inr ⟨_,_,Z,Z⟩) λaO a aP f=>Ag (hw:=wo f aL) 11 17 Z f Z λa f=>Ag (hw:=wo f aL) 12 17 Z f Z λa f=> ?_
      have⟨aQ,aR,aG⟩:=bind_some aG
      refine Cj (hw:=wo f aL) 13 17 T42 h1 aR Z f Z Z λaS aT a aU aV f=> ?_
      subst aV
      refine Ck (hw:=wo f aL) 14 17 Pl2 aU Z f Z λa f=> ?_
      have⟨aW,aX,aG⟩:=bind_some aG
      refine BX (i:=15) 17 Z (by kernel_rfl) Z f (Ba f Z Z Z aL) Z Z call70 (λ_ _ w aY m=>Wk.i m (rd1 aY aP) aX) λa f=>q_p 16 17 Z f (λ_=>AV (f.e Z) aL (f.e Z)) λa f=> ?_
      obtain rfl:=sj aG
      exact aK _ (f.k Z)
   ·refine Ai f Z av ?_
    refine Ax Z ?_
    have m:Mem W ao w H:=Mem.drop (H':=[ib ad 30 [aa]]) m
    obtain rfl:=sj aq
    obtain rfl:=ar _ rfl
    exact⟨_,Z,_,au,f.weak trivial,m⟩
  ·rintro a w ⟨_,rfl,al,aZ,f,m⟩
   refine Ae ?_
   refine Ac f Z λa f=>Aa ?_
   refine Ap ?_
   obtain rfl:=sj hd
   exact⟨[(.bool true)],f.g Z,f.d,_,[],(gt ah aZ),m,Z,Z⟩
theorem Wk.O0 {aa v1:Value}{ab:LL}{x1:LI}(m:Mem W G w (H))(ac:R2 G aa ab)(h1:R1 G v1 x1){y:Bool}(hd:D.O0 ab x1=some y):
  Calls prog 41 #[(.agg #[aa]),v1] w (Res W G H (λ_ Ho v=>Ho=[]∧v=(.bool y))):=by
 refine As (args:=[(.agg #[aa]),v1]) (N:=12) [.tmp 4] func41 Z Z (lb Z) Z λa f=> ?_
 unfold D.O0 at hd
 refine Ae ?_
 refine By (cs:=[aa]) m f Z Z Z λad w a m f=>Ac f Z λa f=>Au ?_
 refine AT 0 0 (ds:=[aa]) m A8 f Z Z Z Z Z λa f=> ?_
 have⟨ae,af,hd⟩:=bind_some hd
 refine Bf f Z call77 (Wk.J m ac af) λag w ah m a f=> ?_
 have ac:=rd2 ah ac
 have h1:=rd1 ah h1
 refine Ab f Z λa f=> ?_
 have⟨ai,aj,hd⟩:=bind_some hd
 refine BJ 4 (λa w=>∃ak,GLe ag ak∧Mem W ak w (ib ad 30 [aa]::H)∧Fr a 12 [(0,(.agg #[aa])),(1,v1),(2,(pb ad)),(5,(.agg #[aa])),(6,(.bool ae)),(7,(.bool ae)),(11,(.bool ai))]) ?_ ?_
 ·rcases Ad aj with⟨al,aj⟩|⟨al,aj⟩
  ·refine AI f al ?_
   refine AT 0 0 (ds:=[aa]) m A8 f Z Z Z Z Z λa f=>AI f al ?_
   refine Ab f Z λa f=>AI f al ?_
   have⟨am,an,aj⟩:=bind_some aj
   refine Bf f Z call108 (Wk.N1 m ac h1 an) λao w ap m a f=>l_o f (AU (f.e Z) al (f.e Z)) λa f=> ?_
   obtain rfl:=sj aj
   exact⟨_,ap,m,f.k Z⟩
  ·refine AL f al λa f=> ?_
   refine AL f al λa f=>AL f al λa f=>l_o f (AV (f.e Z) al (f.e Z)) λa f=> ?_
   obtain rfl:=sj aj
   exact⟨_,gr,m,f.k Z⟩
 ·rintro a w ⟨ak,aq,m,f⟩
  refine Ac f Z λa f=>Aa ?_
  refine Ap ?_
  have m:Mem W ak w H:=Mem.drop (H':=[ib ad 30 [aa]]) m
  obtain rfl:=sj hd
  exact⟨[(.bool ai)],f.g Z,f.d,_,[],(gt ah aq),m,Z,Z⟩
theorem Wk.t1 {aa:Value}{ab:LL}(m:Mem W G w (H))(ac:R2 G aa ab){y:(LL)}(hd:D.t1 ab=some y):
  Calls prog 168 #[(.agg #[aa])] w (Res W G H (λG' Ho v=>∃r0:Value,∃i0:Itm,Ho=[i0]∧v=(.agg #[r0])∧Ow R1 42 G' i0 r0 y)):=by
 refine As (args:=[(.agg #[aa])]) (N:=25) [.cell 2 30] func168 Z Z (lb Z) Z λa f=> ?_
 unfold D.t1 at hd
 refine Ae ?_
 refine By (cs:=[aa]) m f Z Z Z λad w a m f=>Bm (cs:=[sn]) zeroValue30 m f Z Z λae w a m f=>Au ?_
 have af:∀w,(Instr.build 30 #[]).run prog w= .ok (.agg #[sn]) w:=by intro w;simp[Instr.build,Instr.fill,Cr,Ch,BV,B7,BS,Cs]
 refine CZ f Z Z af λa f=>Bm (cs:=[sn]) zeroValue30 m f Z Z λag w a m f=>AE 0 0 (ds:=[sn]) m sizeOf30 f Z Z Z (AC Z AN) Z (lb Z) Z λw m=>Aa (Af (Ae ?_))
 refine Ac f Z λa f=>Aa ?_
 obtain⟨ah,m,ai⟩:=Ow.nil R1 42 m
 have⟨aj,ak,hd⟩:=bind_some hd
 refine AF (λa w=>∃al:LL,al=aj∧∃(am:GH) (an:Value) (ao:Itm),GLe G am∧Fr a 25 [(2,(pb ae)),(3,(pb ag))]∧Mem W am w (ib ae 30 [sn]::ib ag 30 [an]::ao::H)∧Ow R1 42 am ao an al) ?_ ?_
 ·refine Aj ?_
  have m:=m.fr 1
  have m:=m.fr 2
  have m:Mem W G w (ib ad 30 [aa]::ib ae 30 [sn]::ib ag 30 [sn]::ah::H):=m.fr 3
  refine AD (λap a w=>∃aq:Int,∃ar:LL,(aq,ar)=ap∧∃(au:GH) (av:Value) (aw:Itm),GLe G au∧Fr a 25 [(1,(pb ad)),(2,(pb ae)),(3,(pb ag)),(4,(iv aq))]∧Mem W au w (ib ad 30 [aa]::ib ae 30 [sn]::ib ag 30 [av]::aw::H)∧Ow R1 42 au aw av ar) ak ⟨_,_,Z,_,sn,ah,gr,f.k Z,m,ai⟩ ?_
  clear ak f m
  rintro ap ax ay az a w ⟨aq,ar,rfl,au,av,aw,aA,f,m,aB⟩
  have ac:=rd2 aA ac
  refine Af (Ae ?_)
  refine Ab f Z λa f=>Bu underlying30 Z sizeOf22 f Z λa f=>AJ 0 0 m Bd f Z Z Z Z λa f=>A5 underlying22 f Z Z ac λa f=>Ah f Z Z AH λa f=>Aa ?_
  rcases Ad ay with⟨aC,ay⟩|⟨aC,ay⟩
  ·refine Ak f Z aC ?_
   refine Al ?_
   refine Af (Aj ?_)
   refine A3 9 Ay (by kernel_rfl) m ?_
   refine B9 0 9 underlying30 Z sizeOf22 Z f Z λa f=>BQ 1 9 2 Bd Z Z Z f Z λa f=>B9 2 9 underlying30 Z sizeOf22 Z f Z λa f=>BQ 3 9 0 Bd Z Z Z f Z λa f=>Ag 4 9 Z f Z λa f=> ?_
   have⟨aD,aE,ay⟩:=bind_some ay
   refine Cj 5 9 T22 ac aE Z f Z Z λaF aG a aH aI f=>Ck 6 9 AZ aH Z f Z λa f=>Bi 7 Z λaJ w aK m aL aL=> ?_
   have aI:=rd1 aK aI
   have aB:=Ow.mono (RSl.mono (RI.mono _)) aK aB
   have⟨aM,aN,ay⟩:=bind_some ay
   refine Av f Z call69 (Wk.g m aI aN) λaO aP aQ w aR m aS a f=> ?_
   obtain⟨aT,aU,rfl,rfl,aV⟩:=aS
   have aB:=Ow.mono (RSl.mono (RI.mono _)) aR aB
   refine Aa ?_
   refine aL aP [aU] _ _ aR m ?_
   refine Bi 8 Z λaW w aX m aY aY=> ?_
   have aV:=od1 aX aV
   have aB:=Ow.mono (RSl.mono (RI.mono _)) aX aB
   obtain⟨aZ,a0,m,a1⟩:=Ow.stamp (RI.mono _) aV m
   have aB:=Ow.mono (RSl.mono (RI.mono _)) a0 aB
   refine AY (R:=R1) (xs:=([aM]:LL)) (RSl.one _) m T22 f Z Z Z (by decide) (All2.cons a1 (All2.nil _)) λa2 a3 w a m a4 f=>Aa ?_
   refine aY aZ [a2] _ _ a0 m ?_
   refine AK λa5 w a6 m=> ?_
   have a4:=Ow.mono (RSl.mono (RI.mono _)) a6 a4
   have aB:=Ow.mono (RSl.mono (RI.mono _)) a6 aB
   have⟨a7,a8,ay⟩:=bind_some ay
   refine Bh (RSl.one _) 4 m aB Z T22 Z (by decide) f Z Z Z (Ow.src (j:=0) a4 m Z) a8 λa9 ba w a m bb f=>Bu underlying30 Z sizeOf22 f Z λa f=>AE 3 0 (ds:=[ba]) m sizeOf22 f Z Z (Ow.cells 4 m bb Z) (AC (Ow.one1 4 m bb Z) AN) Z (lb Z) Z λw m=>Aa (Am ?_)
   refine Ab f Z λa f=>Ah f Z Z Ar λa f=>Ac f Z λa f=>Aa ?_
   have m:=m.fr 4
   have m:=m.fr 4
   have m:Mem W a5 w (ib ae 30 [sn]::ib ag 30 [ba]::a9::a2::ib ad 30 [aa]::H):=m.fr 4
   have m:=m.fr 4
   have m:Mem W a5 w (ib ad 30 [aa]::ib ae 30 [sn]::ib ag 30 [ba]::a9::H):=m.eraseAt 4
   obtain rfl:=sj ay
   exact⟨_,Z,_,_,Z,_,ba,a9,(gt aA (gt aK (gt aR (gt aX (gt a0 a6))))),f.k Z,m,bb⟩
  ·refine Ai f Z aC ?_
   refine Ax Z ?_
   have m:=m.fr 3
   have m:=m.fr 3
   have m:Mem W au w (ib ae 30 [sn]::ib ag 30 [av]::aw::ib ad 30 [aa]::H):=m.fr 3
   have m:=m.eraseAt 3
   obtain rfl:=sj ay
   obtain rfl:=az _ rfl
   exact⟨_,Z,_,av,aw,aA,f.k Z,m,aB⟩
 ·rintro a w ⟨al,rfl,am,an,ao,bc,f,m,bd⟩
  refine Ae ?_
  refine AT 1 0 (ds:=[an]) m A8 f Z Z Z Z Z λa f=>AE 0 0 (ds:=[an]) m sizeOf30 f Z Z Z (AC (Ow.one1 2 m bd Z) AN) Z (lb Z) Z λw m=>Aa ?_
  refine Ap ?_
  have be:=BE (P:=prog) 0 m A8 f (s:=2) rfl rfl rfl
  have m:=m.fr 2
  have m:=m.eraseAt 2
  have m:=m.eraseAt 1
  obtain rfl:=sj hd
  exact⟨[(.agg #[an])],⟨be,trivial⟩,f.d,_,[ao],bc,m,_,_,Z,Z,bd⟩
theorem Wk.V {aa v2:Value}{ab:LL}{x1:Int}{x2:(List Bool)}(m:Mem W G w (H))(ac:R2 G aa ab)(h2:RSl RB G v2 x2){y:(LI)}(hd:D.V ab x1 x2=some y):
  Calls prog 132 #[(.agg #[aa]),(iv x1),v2] w (Res W G H (λG' Ho v=>∃r0:Value,∃i0:Itm,Ho=[i0]∧r0=v∧Ow R0 2 G' i0 r0 y)):=by
 refine As (args:=[(.agg #[aa]),(iv x1),v2]) (N:=44) [.tmp 6] func132 Z Z (lb Z) Z λa f=> ?_
 unfold D.V at hd
 refine Ae ?_
 refine By (cs:=[aa]) m f Z Z Z λad w a m f=>Ac f Z λa f=>Au ?_
 refine AY (R:=R0) (xs:=([]:LI)) (RI.one _) m T42 f Z Z Z (by decide) (All2.nil _) λae af w a m ag f=>Ac f Z λa f=>Aa (Af (Ae ?_))
 refine Ac f Z λa f=>Aa ?_
 have⟨ah,ai,hd⟩:=bind_some hd
 refine AF (λa w=>∃aj:LI,aj=ah∧∃(ak:GH) (al:Value) (am:Itm),GLe G ak∧Fr a 44 [(7,al)]∧Mem W ak w (am::H)∧Ow R0 2 ak am al aj) ?_ ?_
 ·refine Aj ?_
  have m:=m.fr 1
  refine AD (λan a w=>∃ao:LI,∃ap:Int,(ao,ap)=an∧∃(aq:GH) (ar:Value) (au:Itm),GLe G aq∧Fr a 44 [(1,(iv x1)),(2,v2),(3,(pb ad)),(7,ar),(8,(iv ap))]∧Mem W aq w (ib ad 30 [aa]::au::H)∧Ow R0 2 aq au ar ao) ai ⟨_,_,Z,_,af,ae,gr,f.k Z,m,ag⟩ ?_
  clear ai f m
  rintro an av aw ax a w ⟨ao,ap,rfl,aq,ar,au,ay,f,m,az⟩
  have h2:=RSl.mono RB.mono _ _ _ _ ay h2
  have ac:=rd2 ay ac
  refine Af (Ae ?_)
  refine Ab f Z λa f=>Bu underlying30 Z sizeOf22 f Z λa f=>AJ 0 0 m Bd f Z Z Z Z λa f=>Ab f Z λa f=> ?_
  have⟨aA,aB,aw⟩:=bind_some aw
  refine Bl T22 f Z Z Z ac aB λaC aD a aE aF f=>AM m AZ f Z Z aE λa f=>A5 underlying42 f Z Z aF λa f=>Ah f Z Z AH λa f=>Aa ?_
  rcases Ad aw with⟨aG,aw⟩|⟨aG,aw⟩
  ·refine Ak f Z aG ?_
   refine Al ?_
   refine Af (Aj (Ae ?_))
   refine Ab f Z λa f=>Bu underlying30 Z sizeOf22 f Z λa f=>AJ 0 0 m Bd f Z Z Z Z λa f=>Ab f Z λa f=> ?_
   have⟨aH,aI,aw⟩:=bind_some aw
   refine Bl T22 f Z Z Z ac aI λaJ aK a aL aM f=>AM m AZ f Z Z aL λa f=>Ab f Z λa f=> ?_
   have⟨aN,aO,aw⟩:=bind_some aw
   refine Bl T42 f Z Z Z aM aO λaP aQ a aR aS f=> ?_
   subst aS
   refine AM m Pl2 f Z Z aR λa f=> ?_
   have⟨aT,aU,aw⟩:=bind_some aw
   refine Bl T142 f Z Z Z h2 aU λaV aW a aX aY f=> ?_
   subst aY
   refine AM m Pl4 f Z Z aX λa f=>l_o f (Bj (f.e Z)) λa f=>Aa ?_
   rcases Ad aw with⟨aZ,aw⟩|⟨aZ,aw⟩
   ·refine Ak f Z aZ ?_
    refine Am ?_
    refine Ab f Z λa f=>Bu underlying30 Z sizeOf22 f Z λa f=>AJ 0 0 m Bd f Z Z Z Z λa f=>Ab f Z λa f=> ?_
    have⟨a0,a1,aw⟩:=bind_some aw
    refine Bl T22 f Z Z Z ac a1 λa2 a3 a a4 a5 f=>AM m AZ f Z Z a4 λa f=>Ab f Z λa f=> ?_
    have⟨a6,a7,aw⟩:=bind_some aw
    refine Bl T42 f Z Z Z a5 a7 λa8 a9 a ba bb f=> ?_
    subst bb
    refine AM m Pl2 f Z Z ba λa f=>AY (R:=R0) (xs:=([a6]:LI)) (RI.one _) m T42 f Z Z Z (by decide) (All2.cons Z (All2.nil _)) λbc bd w a m be f=> ?_
    have⟨bf,bg,aw⟩:=bind_some aw
    refine Bh (RI.one _) 2 m az Z T42 Z (by decide) f Z Z Z (Ow.src (j:=0) be m Z) bg λbh bi w a m bj f=>Ac f Z λa f=>Aa (Am ?_)
    refine Ab f Z λa f=>Ah f Z Z Ar λa f=>Ac f Z λa f=>Aa ?_
    have m:=m.fr 2
    have m:=m.fr 2
    have m:=m.eraseAt 2
    obtain rfl:=sj aw
    exact⟨_,Z,_,_,Z,_,bi,bh,ay,f.k Z,m,bj⟩
   ·refine Ai f Z aZ ?_
    refine Al ?_
    refine Am ?_
    refine Ab f Z λa f=>Ah f Z Z Ar λa f=>Ac f Z λa f=>Aa ?_
    obtain rfl:=sj aw
    exact⟨_,Z,_,_,Z,_,ar,au,ay,f.k Z,m,az⟩
  ·refine Ai f Z aG ?_
   refine Ax Z ?_
   have m:=m.fr 1
   have m:=m.eraseAt 1
   obtain rfl:=sj aw
   obtain rfl:=ax _ rfl
   exact⟨_,Z,_,ar,au,ay,f.k Z,m,az⟩
 ·rintro a w ⟨aj,rfl,ak,al,am,bk,f,m,bl⟩
  refine Ae ?_
  refine Ab f Z λa f=>Ac f Z λa f=>Aa ?_
  refine Ap ?_
  obtain rfl:=sj hd
  exact⟨[al],f.g Z,f.d,_,[am],bk,m,_,_,Z,Z,bl⟩
theorem Wk.P0 {aa:Value}{ab:Itm}{v1:Value}{ac:LL}{x1:LI}(m:Mem W G w (ab::H))(ad:Ow R1 42 G ab aa ac)(h1:R1 G v1 x1){y:(LL)}(hd:D.P0 ac x1=some y):
  Calls prog 169 #[(.agg #[aa]),v1] w (Res W G H (λG' Ho v=>∃i0:Itm,Ho=[i0]∧v=(.agg #[aa])∧Ow R1 42 G' i0 aa y)):=by
 refine As (args:=[(.agg #[aa]),v1]) (N:=29) [.cell 4 30] func169 Z Z (lb Z) Z λa f=> ?_
 unfold D.P0 at hd
 refine Ae ?_
 refine By (cs:=[aa]) m f Z Z Z λae w a m f=>Bm (cs:=[sn]) zeroValue30 m f Z Z λaf w a m f=>Aa (Af (Ae ?_))
 refine Ac f Z λa f=>Aa ?_
 have⟨ag,ah,hd⟩:=bind_some hd
 refine AF (λa w=>∃ai:LL,ai=ag∧∃(aj:GH) (ak:Itm),GLe G aj∧Fr a 29 [(2,(pb ae)),(4,(pb af))]∧Mem W aj w (ib ae 30 [aa]::ib af 30 [sn]::ak::H)∧Ow R1 42 aj ak aa ai) ?_ ?_
 ·refine Aj ?_
  have m:=m.fr 1
  refine AD (λal a w=>∃am:LL,∃an:Int,(am,an)=al∧∃(ao:GH) (ap:Itm),GLe G ao∧Fr a 29 [(1,v1),(2,(pb ae)),(4,(pb af)),(5,(iv an))]∧Mem W ao w (ib ae 30 [aa]::ib af 30 [sn]::ap::H)∧Ow R1 42 ao ap aa am) ah ⟨_,_,Z,_,ab,gr,f.k Z,m,ad⟩ ?_
  clear ah f m
  rintro al aq ar au a w ⟨am,an,rfl,ao,ap,av,f,m,aw⟩
  have h1:=rd1 av h1
  refine Af (Ae ?_)
  refine Ab f Z λa f=>Ab f Z λa f=>A5 underlying42 f Z Z h1 λa f=>Ah f Z Z AH λa f=>Aa ?_
  rcases Ad ar with⟨ax,ar⟩|⟨ax,ar⟩
  ·refine Ak f Z ax ?_
   refine Al ?_
   refine Af (Aj (Ae ?_))
   refine Ac f Z λa f=>Aa ?_
   have⟨ay,az,ar⟩:=bind_some ar
   refine AF (λa w=>∃aA:LL,aA=ay∧∃(aB:GH) (aC:Itm),GLe ao aB∧Fr a 29 [(1,v1),(2,(pb ae)),(4,(pb af)),(5,(iv an))]∧Mem W aB w (ib ae 30 [aa]::ib af 30 [sn]::aC::H)∧Ow R1 42 aB aC aa aA) ?_ ?_
   ·refine Aj ?_
    refine AD (λaD a w=>∃aE:LL,∃aF:Int,(aE,aF)=aD∧∃(aG:GH) (aH:Itm),GLe ao aG∧Fr a 29 [(1,v1),(2,(pb ae)),(4,(pb af)),(5,(iv an)),(6,(iv aF))]∧Mem W aG w (ib ae 30 [aa]::ib af 30 [sn]::aH::H)∧Ow R1 42 aG aH aa aE) az ⟨_,_,Z,_,ap,gr,f.k Z,m,aw⟩ ?_
    clear az f m
    rintro aD aI aJ aK a w ⟨aE,aF,rfl,aG,aH,aL,f,m,aM⟩
    have h1:=rd1 aL h1
    refine Af (Ae ?_)
    refine Ab f Z λa f=>Ab f Z λa f=>Ah f Z Z AH λa f=>Aa ?_
    rcases Ad aJ with⟨aN,aJ⟩|⟨aN,aJ⟩
    ·refine Ak f Z aN ?_
     refine Al ?_
     refine Af (Aj ?_)
     refine A3 9 Ay (by kernel_rfl) m ?_
     refine BH (i:=0) (ds:=[aa]) 9 0 A8 Z Z Z Z (by kernel_rfl) Z f Z Z Z λa f=>Ag 1 9 Z f Z λa f=>Ag 2 9 Z f Z λa f=> ?_
     have⟨aO,aP,aJ⟩:=bind_some aJ
     refine Cj 3 9 T42 h1 aP Z f Z Z λaQ aR a aS aT f=> ?_
     subst aT
     refine Ck 4 9 Pl2 aS Z f Z λa f=>Ag 5 9 Z f Z λa f=>Ag 6 9 Z f Z λa f=> ?_
     have⟨aU,aV,aJ⟩:=bind_some aJ
     refine Cj 7 9 T42 h1 aV Z f Z Z λaW aX a aY aZ f=> ?_
     subst aZ
     refine Ck 8 9 Pl2 aY Z f Z λa f=>AK λa0 w a1 m=> ?_
     have aM:=Ow.mono (RSl.mono (RI.mono _)) a1 aM
     have m:=m.fr 2
     have⟨a2,a3,aJ⟩:=bind_some aJ
     refine Av f Z call143 (Wk.q m aM a3) λa4 a5 a6 w a7 m a8 a f=> ?_
     obtain⟨a9,rfl,rfl,ba⟩:=a8
     refine AE 1 0 (ds:=[aa]) m sizeOf30 f Z Z Z (AC (Ow.one1 0 m ba Z) AN) Z (lb Z) Z λw m=>Aa (Am ?_)
     refine Ab f Z λa f=>Ah f Z Z Ar λa f=>Ac f Z λa f=>Aa ?_
     have m:=m.fr 2
     have m:=m.fr 2
     obtain rfl:=sj aJ
     exact⟨_,Z,_,_,Z,_,a9,(gt aL (gt a1 a7)),f.k Z,m,ba⟩
    ·refine Ai f Z aN ?_
     refine Ax Z ?_
     obtain rfl:=sj aJ
     obtain rfl:=aK _ rfl
     exact⟨_,Z,_,aH,aL,f.k Z,m,aM⟩
   ·rintro a w ⟨aA,rfl,aB,aC,bb,f,m,bc⟩
    refine Am ?_
    refine Ab f Z λa f=>Ah f Z Z Ar λa f=>Ac f Z λa f=>Aa ?_
    obtain rfl:=sj ar
    exact⟨_,Z,_,_,Z,_,aC,(gt av bb),f.k Z,m,bc⟩
  ·refine Ai f Z ax ?_
   refine Ax Z ?_
   obtain rfl:=sj ar
   obtain rfl:=au _ rfl
   exact⟨_,Z,_,ap,av,f.k Z,m,aw⟩
 ·rintro a w ⟨ai,rfl,aj,ak,bd,f,m,be⟩
  refine Ae ?_
  refine AT 0 0 (ds:=[aa]) m A8 f Z Z Z Z Z λa f=>AE 1 0 (ds:=[aa]) m sizeOf30 f Z Z Z (AC (Ow.one1 2 m be Z) AN) Z (lb Z) Z λw m=>Aa ?_
  refine Ap ?_
  have bf:=BE (P:=prog) 1 m A8 f (s:=4) rfl rfl rfl
  have m:=m.fr 2
  have m:=m.eraseAt 2
  have m:=m.eraseAt 1
  obtain rfl:=sj hd
  exact⟨[(.agg #[aa])],⟨bf,trivial⟩,f.d,_,[ak],bd,m,_,Z,Z,be⟩
theorem Wk.b1 {aa v1:Value}{ab:LL}{x1:LI}(m:Mem W G w (H))(ac:R2 G aa ab)(h1:R1 G v1 x1){y:(LL)}(hd:D.b1 ab x1=some y):
  Calls prog 131 #[(.agg #[aa]),v1] w (Res W G H (λG' Ho v=>∃r0:Value,∃i0:Itm,Ho=[i0]∧v=(.agg #[r0])∧Ow R1 42 G' i0 r0 y)):=by
 refine As (args:=[(.agg #[aa]),v1]) (N:=35) [.cell 4 30] func131 Z Z (lb Z) Z λa f=> ?_
 unfold D.b1 at hd
 refine Ae ?_
 refine By (cs:=[aa]) m f Z Z Z λad w a m f=>Bm (cs:=[sn]) zeroValue30 m f Z Z λae w a m f=>Au ?_
 refine AT 1 0 (ds:=[aa]) m A8 f Z Z Z Z Z λa f=> ?_
 have⟨af,ag,hd⟩:=bind_some hd
 refine Av f Z call168 (Wk.t1 m ac ag) λah ai aj w ak m al a f=> ?_
 obtain⟨am,an,rfl,rfl,ao⟩:=al
 have ac:=rd2 ak ac
 have h1:=rd1 ak h1
 refine Bm (cs:=[sn]) zeroValue30 m f Z Z λap w a m f=>AE 0 0 (ds:=[am]) m sizeOf30 f Z Z Z (AC (Ow.one1 1 m ao Z) AN) Z (lb Z) Z λw m=>Au ?_
 refine AT 3 0 (ds:=[aa]) m A8 f Z Z Z Z Z λa f=> ?_
 have⟨aq,ar,hd⟩:=bind_some hd
 refine Bf f Z call80 (Wk.a m ac ar) λau w av m a f=> ?_
 have h1:=rd1 av h1
 have ao:=Ow.mono (RSl.mono (RI.mono _)) av ao
 have⟨aw,ax,hd⟩:=bind_some hd
 refine E8 (R:=RB) m T142 Z (by decide) Z f Z Z Z ax λay az w a m aA f=>Ac f Z λa f=>Aa (Af (Ae ?_))
 refine Ac f Z λa f=>Aa ?_
 have⟨aB,aC,hd⟩:=bind_some hd
 refine AF (λa w=>∃aD:LL,aD=aB∧∃(aE:GH) (aF:Itm),GLe au aE∧Fr a 35 [(4,(pb ae)),(5,(pb ap))]∧Mem W aE w (ib ae 30 [sn]::ib ap 30 [am]::aF::H)∧Ow R1 42 aE aF am aD) ?_ ?_
 ·refine Aj ?_
  have m:=m.fr 1
  have m:=m.fr 3
  have m:=m.eraseAt 4
  refine AD (λaG a w=>∃aH:List Bool,∃aI:Int,∃aJ:LL,(aH,aI,aJ)=aG∧∃(aK:GH) (aL:Itm) (aM:Itm),GLe au aK∧Fr a 35 [(1,v1),(4,(pb ae)),(5,(pb ap)),(6,az),(7,(iv aI))]∧Mem W aK w (ib ae 30 [sn]::ib ap 30 [am]::aL::aM::H)∧Ow RB 4 aK aL az aH∧Ow R1 42 aK aM am aJ) aC ⟨_,_,_,Z,_,ay,an,gr,f.k Z,m,aA,ao⟩ ?_
  clear aC f m
  rintro aG aN aO aP a w ⟨aH,aI,aJ,rfl,aK,aL,aM,aQ,f,m,aR,aS⟩
  have h1:=rd1 aQ h1
  refine Af (Ae ?_)
  refine Ab f Z λa f=>Ab f Z λa f=>A5 underlying42 f Z Z h1 λa f=>Ah f Z Z AH λa f=>Aa ?_
  rcases Ad aO with⟨aT,aO⟩|⟨aT,aO⟩
  ·refine Ak f Z aT ?_
   refine Al ?_
   refine Af (Aj (Ae ?_))
   refine Ab f Z λa f=>Ab f Z λa f=>Ab f Z λa f=> ?_
   have⟨aU,aV,aO⟩:=bind_some aO
   refine Bl T42 f Z Z Z h1 aV λaW aX a aY aZ f=> ?_
   subst aZ
   refine AM m Pl2 f Z Z aY λa f=> ?_
   have⟨a2,a3,aO⟩:=bind_some aO
   refine A6 2 m aR Z T142 f Z Z Z a3 λa4 a a5 f=>Aw 2 m aR Z sizeOf4 f Z Z a5 a3 Z Z Z λa6 w m a7=>Aa ?_
   refine A3 8 Ay (by kernel_rfl) m ?_
   refine BH (i:=0) (ds:=[am]) 8 1 A8 Z Z Z Z (by kernel_rfl) Z f Z Z Z λa f=>BH (i:=1) (ds:=[am]) 8 1 A8 Z Z Z Z (by kernel_rfl) Z f Z Z Z λa f=>Ag 2 8 Z f Z λa f=>Ag 3 8 Z f Z λa f=> ?_
   have⟨a8,a9,aO⟩:=bind_some aO
   refine Cj 4 8 T42 h1 a9 Z f Z Z λba bb a bc bd f=> ?_
   subst bd
   refine Ck 5 8 Pl2 bc Z f Z λa f=>Ag 6 8 Z f Z λa f=>Bi 7 Z λbe w bf m bg bg=> ?_
   have a7:=Ow.mono RB.mono bf a7
   have aS:=Ow.mono (RSl.mono (RI.mono _)) bf aS
   have⟨bh,bi,aO⟩:=bind_some aO
   refine Av f Z call132 (Ow.lendCall (RSl.mono (RI.mono _)) 3 aS m Z (λbj bk m bl=>(Ow.lendCall RB.mono 2 (Ow.mono RB.mono bk a7) m Z (λbm bn m bo=>Wk.V m (rd2 bn bl) bo bi) (λ_ G' _ _ ⟨a0,a1,e1,e2,o0⟩=>⟨a0,a1,e1,e2,Ow.free (RI.free _) G' o0⟩))) (λ_ G' _ _ ⟨a0,a1,e1,e2,o0⟩=>⟨a0,a1,e1,e2,Ow.free (RI.free _) G' o0⟩)) λbp bq br w bs m bt a f=> ?_
   obtain⟨bu,bv,rfl,rfl,bw⟩:=bt
   have a7:=Ow.mono RB.mono bs a7
   have aS:=Ow.mono (RSl.mono (RI.mono _)) bs aS
   refine Aa ?_
   refine bg bq [bv] _ _ bs m ?_
   refine AK λbx w bz m=> ?_
   have bw:=od1 bz bw
   have a7:=Ow.mono RB.mono bz a7
   have aS:=Ow.mono (RSl.mono (RI.mono _)) bz aS
   obtain⟨bA,bB,m,bC⟩:=Ow.stamp (RI.mono _) bw m
   have a7:=Ow.mono RB.mono bB a7
   have aS:=Ow.mono (RSl.mono (RI.mono _)) bB aS
   have m:Mem W bA w (aM::ib ae 30 [sn]::ib ap 30 [am]::a6::H):=m.fr 3
   have⟨bD,bE,aO⟩:=bind_some aO
   refine Av f Z call169 (Wk.P0 m aS bC bE) λbF bG bH w bI m bJ a f=> ?_
   obtain⟨bK,rfl,rfl,bL⟩:=bJ
   have a7:=Ow.mono RB.mono bI a7
   refine AE 2 0 (ds:=[am]) m sizeOf30 f Z Z Z (AC (Ow.one1 0 m bL Z) AN) Z (lb Z) Z λw m=>Aa (Am ?_)
   refine Ab f Z λa f=>Ah f Z Z Ar λa f=>Ac f Z λa f=>Aa ?_
   have m:=m.fr 3
   have m:=m.fr 3
   have m:Mem W bG w (ib ae 30 [sn]::ib ap 30 [am]::a6::bK::H):=m.fr 3
   obtain rfl:=sj aO
   exact⟨_,Z,_,_,_,Z,_,a6,bK,(gt aQ (gt bf (gt bs (gt bz (gt bB bI))))),f.k Z,m,a7,bL⟩
  ·refine Ai f Z aT ?_
   refine Ax Z ?_
   have m:=m.fr 3
   have m:=m.fr 2
   have m:Mem W aK w (ib ae 30 [sn]::ib ap 30 [am]::aM::aL::H):=m.fr 2
   have m:=m.eraseAt 3
   obtain rfl:=sj aO
   obtain rfl:=aP _ rfl
   exact⟨_,Z,_,aM,aQ,f.k Z,m,aS⟩
 ·rintro a w ⟨aD,rfl,aE,aF,bM,f,m,bN⟩
  refine Ae ?_
  refine AT 1 0 (ds:=[am]) m A8 f Z Z Z Z Z λa f=>AE 0 0 (ds:=[am]) m sizeOf30 f Z Z Z (AC (Ow.one1 2 m bN Z) AN) Z (lb Z) Z λw m=>Aa ?_
  refine Ap ?_
  have bO:=BE (P:=prog) 0 m A8 f (s:=4) rfl rfl rfl
  have m:=m.fr 2
  have m:=m.eraseAt 2
  have m:=m.eraseAt 1
  obtain rfl:=sj hd
  exact⟨[(.agg #[am])],⟨bO,trivial⟩,f.d,_,[aF],(gt ak (gt av bM)),m,_,_,Z,Z,bN⟩
theorem Wk.a0 {aa v1:Value}{ab:LL}{x1:LI}(m:Mem W G w (H))(ac:R2 G aa ab)(h1:R1 G v1 x1){y:(LL)×Bool}(hd:D.a0 ab x1=some y):
  Calls prog 138 #[(.agg #[aa]),v1] w (Res W G H (λG' Ho v=>∃r0:Value,∃i0:Itm,Ho=[i0]∧v= .tuple #[(.agg #[r0]),(.bool y.2)]∧Ow R1 42 G' i0 r0 y.1)):=by
 refine As (args:=[(.agg #[aa]),v1]) (N:=14) [.cell 4 30,.tmp 5] func138 Z Z (lb Z) Z λa f=> ?_
 unfold D.a0 at hd
 refine Ae ?_
 refine By (cs:=[aa]) m f Z Z Z λad w a m f=>Bm (cs:=[sn]) zeroValue30 m f Z Z λae w a m f=>Ac f Z λa f=>Aa (Af (Ae ?_))
 refine AT 1 0 (ds:=[aa]) m A8 f Z Z Z Z Z λa f=>Ab f Z λa f=> ?_
 have⟨af,ag,hd⟩:=bind_some hd
 refine Bf f Z call41 (Wk.O0 m ac h1 ag) λah w ai m a f=> ?_
 have ac:=rd2 ai ac
 have h1:=rd1 ai h1
 refine l_o f (Bj (f.e Z)) λa f=>Aa ?_
 rcases Ad hd with⟨aj,hd⟩|⟨aj,hd⟩
 ·refine Ak f Z aj ?_
  refine Ae ?_
  have ak:∀w,(Instr.build 30 #[]).run prog w= .ok (.agg #[sn]) w:=by intro w;simp[Instr.build,Instr.fill,Cr,Ch,BV,B7,BS,Cs]
  refine CZ f Z Z ak λa f=>AE 0 0 (ds:=[sn]) m sizeOf30 f Z Z Z (AC Z AN) Z (lb Z) Z λw m=>Ac f Z λa f=>Aa ?_
  refine Ap ?_
  obtain⟨al,m,am⟩:=Ow.nil R1 42 m
  have an:=BE (P:=prog) 1 m A8 f (s:=4) rfl rfl rfl
  have m:=m.eraseAt 2
  have m:=m.eraseAt 1
  obtain rfl:=sj hd
  exact⟨[(.agg #[sn]),(.bool false)],⟨an,f.get _ _ Z,trivial⟩,f.d,_,[al],ai,m,_,_,Z,Z,am⟩
 ·refine Ai f Z aj ?_
  refine Al ?_
  refine Ae ?_
  refine AT 1 0 (ds:=[aa]) m A8 f Z Z Z Z Z λa f=>Ab f Z λa f=> ?_
  have⟨ao,ap,hd⟩:=bind_some hd
  refine Av f Z call131 (Wk.b1 m ac h1 ap) λaq ar au w av m aw a f=> ?_
  obtain⟨ax,ay,rfl,rfl,az⟩:=aw
  refine AE 1 0 (ds:=[ax]) m sizeOf30 f Z Z Z (AC (Ow.one1 0 m az Z) AN) Z (lb Z) Z λw m=>Ac f Z λa f=>Aa ?_
  refine Ap ?_
  have aA:=BE (P:=prog) 1 m A8 f (s:=4) rfl rfl rfl
  have m:=m.eraseAt 2
  have m:=m.eraseAt 1
  obtain rfl:=sj hd
  exact⟨[(.agg #[ax]),(.bool true)],⟨aA,f.get _ _ Z,trivial⟩,f.d,_,[ay],(gt ai av),m,_,_,Z,Z,az⟩
theorem Wk.S {aa:Value}{b0:Nat}{ab:LI}{ac ad:Int}(m:Mem W G w (ib b0 151 [aa,(iv ac),(iv ad)]::H))(ae:RSl (RI .u8) G aa ab){y:(LL)×(LI)×Int×Int}(hd:D.h2 ab ac ad=some y):
  Calls prog 75 #[(pb b0)] w (Res W G H (λG' Ho v=>∃r0:Value,∃r1:Value,Ho=[ib b0 151 [r1,(iv y.2.2.1),(iv y.2.2.2)]]∧v=(.agg #[r0])∧R2 G' r0 y.1∧RSl (RI .u8) G' r1 y.2.1)):=by
 refine As (args:=[(pb b0)]) (N:=21) [.cell 2 30] func75 Z Z (lb Z) Z λa f=> ?_
 unfold D.h2 at hd
 refine Ae ?_
 refine Bm (cs:=[sn]) zeroValue30 m f Z Z λaf w a m f=>Au ?_
 refine Ab f Z λa f=> ?_
 have m:Mem W G w (ib b0 151 [aa,(iv ac),(iv ad)]::ib af 30 [sn]::H):=m.fr 1
 have⟨ag,ah,hd⟩:=bind_some hd
 refine Av f Z call136 (Wk.I0 m ae ah) λai aj ak w al m am a f=> ?_
 obtain⟨an,ao,ap,rfl,rfl,aq,ar⟩:=am
 refine Bm (cs:=[sn]) zeroValue30 m f Z Z λau w a m f=>AE 0 0 (ds:=[an]) m sizeOf30 f Z Z Z (AC (Ow2.one1 1 m aq Z) AN) Z (lb Z) Z λw m=>Aa (Af (Ae ?_))
 refine Ab f Z λa f=> ?_
 have m:Mem W aj w (ib b0 151 [ap,(iv ag.2.2.1),(iv ag.2.2.2)]::ib au 30 [an]::ao::ib af 30 [sn]::H):=m.fr 2
 have⟨av,aw,hd⟩:=bind_some hd
 refine Av f Z call137 (Wk.v m ar aw) λax ay az w aA m aB a f=> ?_
 obtain⟨aC,rfl,rfl,aD⟩:=aB
 have aq:=od2 aA aq
 refine Aa ?_
 rcases Ad hd with⟨aE,hd⟩|⟨aE,hd⟩
 ·refine Ak f Z aE ?_
  refine Af ?_
  have⟨aF,aG,hd⟩:=bind_some hd
  refine AF (λa w=>∃aH:LL,∃aI:Bool,∃aJ:LL,∃aK:LI,∃aL:Int,∃aM:Int,(aH,aI,aJ,aK,aL,aM)=aF∧∃(aN:GH) (aO:Nat) (aP:Value) (aQ:Itm) (aR:Value) (aS:Value),GLe ay aN∧Fr a 21 [(2,(pb af)),(3,(pb au)),(4,(pb aO)),(5,(.bool aI))]∧Mem W aN w (ib af 30 [sn]::ib au 30 [aR]::ib b0 151 [aS,(iv aL),(iv aM)]::ib aO 30 [aP]::aQ::H)∧Ow R1 42 aN aQ aP aH∧R2 aN aR aJ∧RSl (RI .u8) aN aS aK) ?_ ?_
  ·have m:Mem W ay w (ao::ib b0 151 [aC,(iv av.2.2.1),(iv av.2.2.2)]::ib au 30 [an]::ib af 30 [sn]::H):=m.fr 2
   obtain⟨aT,aU,m,aV⟩:=Ow2.stamp (RI.mono _) aq m
   have aD:=rd1 aU aD
   refine F4 [ib b0 151 [aC,(iv av.2.2.1),(iv av.2.2.2)]] (ib au 30 [an]::ib af 30 [sn]::H) 10 Ay (by kernel_rfl) m ?_
   refine BH (i:=0) (ds:=[an]) 10 0 A8 Z Z Z Z (by kernel_rfl) Z f Z Z Z λa f=>Ag 1 10 Z f Z λa f=>BH (i:=2) (ds:=[an]) 10 0 A8 Z Z Z Z (by kernel_rfl) Z f Z Z Z λa f=>D9 (i:=3) (j:=8) (l1:= #[true,true,true,true,false,false,false,false,false,false,false]) (l2:= #[true,true,true,false,false,false,false,false,true,false,false]) Z Z (by kernel_rfl) Z Z ?_ ?_
   ·intro aW w aX m aY aY
    have aV:=rd2 aX aV
    have aD:=rd1 aX aD
    have⟨aZ,a0,aG⟩:=bind_some aG
    refine Av f Z call139 (Wk.i0 m aD aV a0) λa1 a2 a3 w a4 m a5 a f=> ?_
    obtain⟨a6,a7,a8,rfl,rfl,a9,ba⟩:=a5
    have aV:=rd2 a4 aV
    refine Aa ?_
    refine aY a2 [a7,ib b0 151 [a8,(iv aZ.2.2.1),(iv aZ.2.2.2)]] _ _ a4 m ?_
    refine D9 (i:=4) (j:=8) (l1:= #[true,true,true,true,true,false,false,false,false,false,false]) (l2:= #[true,true,true,true,false,false,false,false,true,false,false]) Z Z (by kernel_rfl) Z Z ?_ ?_
    ·intro bb w bc m bd bd
     have aV:=rd2 bc aV
     have a9:=od1 bc a9
     have ba:=rd1 bc ba
     obtain⟨be,bf,m,bg⟩:=Ow.stamp (RI.mono _) a9 m
     have aV:=rd2 bf aV
     have ba:=rd1 bf ba
     have⟨bh,bi,aG⟩:=bind_some aG
     refine Av f Z call138 (Wk.a0 m aV bg bi) λbj bk bl w bm m bn a f=> ?_
     obtain⟨bo,bp,rfl,rfl,bq⟩:=bn
     have aV:=rd2 bm aV
     have ba:=rd1 bm ba
     refine Aa ?_
     refine bd bk [bp,ib b0 151 [a8,(iv aZ.2.2.1),(iv aZ.2.2.2)]] _ _ (gt bf bm) m ?_
     refine Ag 5 10 Z f Z λa f=>q_p 6 10 Z f (λ_=>A7 (f.e Z) Z) λa f=>q_p 7 10 Z f (λ_=>A7 (f.e Z) Z) λa f=>Bi 8 Z λbr w bs m bt bt=> ?_
     have aV:=rd2 bs aV
     have bq:=Ow.mono (RSl.mono (RI.mono _)) bs bq
     have ba:=rd1 bs ba
     refine Bm (cs:=[sn]) zeroValue30 m f Z Z λbu w a m f=>Aa ?_
     refine bt br [ib bu 30 [sn],bp,ib b0 151 [a8,(iv aZ.2.2.1),(iv aZ.2.2.2)]] _ _ gr m ?_
     refine Bi 9 Z λbv w bw m bx bx=> ?_
     have aV:=rd2 bw aV
     have bq:=Ow.mono (RSl.mono (RI.mono _)) bw bq
     have ba:=rd1 bw ba
     refine AE 0 0 (ds:=[bo]) m sizeOf30 f Z Z Z (AC (Ow.one1 1 m bq Z) AN) Z (lb Z) Z λw m=>Aa ?_
     refine bx bv [ib bu 30 [bo],bp,ib b0 151 [a8,(iv aZ.2.2.1),(iv aZ.2.2.2)]] _ _ gr m ?_
     refine AK λbz w bA m=> ?_
     have aV:=rd2 bA aV
     have bq:=Ow.mono (RSl.mono (RI.mono _)) bA bq
     have ba:=rd1 bA ba
     refine Ac f Z λa f=>Aa ?_
     have m:=m.fr 2
     have m:=m.fr 3
     have m:Mem W bz w (ib af 30 [sn]::ib au 30 [an]::ib b0 151 [a8,(iv aZ.2.2.1),(iv aZ.2.2.2)]::ib bu 30 [bo]::bp::H):=m.fr 4
     obtain rfl:=sj aG
     exact⟨_,_,_,_,_,_,Z,_,bu,bo,bp,an,a8,(gt aU (gt aX (gt a4 (gt bc (gt bf (gt bm (gt bs (gt bw bA)))))))),f.k Z,m,bq,aV,ba⟩
    ·intro br w bs m bt bt
     have⟨bh,bi,aG⟩:=bind_some aG
     have aV:=rd2 bs aV
     have a9:=od1 bs a9
     have ba:=rd1 bs ba
     refine Bm (cs:=[sn]) zeroValue30 m f Z Z λbu w a m f=>Aa ?_
     refine bt br [ib bu 30 [sn],a7,ib b0 151 [a8,(iv aZ.2.2.1),(iv aZ.2.2.2)]] _ _ gr m ?_
     refine Bi 4 Z λbb w bc m bd bd=> ?_
     have aV:=rd2 bc aV
     have a9:=od1 bc a9
     have ba:=rd1 bc ba
     have m:Mem W bb w (a7::ib bu 30 [sn]::ib b0 151 [a8,(iv aZ.2.2.1),(iv aZ.2.2.2)]::ib au 30 [an]::ib af 30 [sn]::H):=m.fr 1
     obtain⟨be,bf,m,bg⟩:=Ow.stamp (RI.mono _) a9 m
     have aV:=rd2 bf aV
     have ba:=rd1 bf ba
     refine Av f Z call138 (Wk.a0 m aV bg bi) λbj bk bl w bm m bn a f=> ?_
     obtain⟨bo,bp,rfl,rfl,bq⟩:=bn
     have aV:=rd2 bm aV
     have ba:=rd1 bm ba
     refine Aa ?_
     refine bd bk [bp,ib bu 30 [sn],ib b0 151 [a8,(iv aZ.2.2.1),(iv aZ.2.2.2)]] _ _ (gt bf bm) m ?_
     refine Ag 5 10 Z f Z λa f=>q_p 6 10 Z f (λ_=>A7 (f.e Z) Z) λa f=>q_p 7 10 Z f (λ_=>A7 (f.e Z) Z) λa f=>Bi 9 Z λbv w bw m bx bx=> ?_
     have aV:=rd2 bw aV
     have bq:=Ow.mono (RSl.mono (RI.mono _)) bw bq
     have ba:=rd1 bw ba
     refine AE 1 0 (ds:=[bo]) m sizeOf30 f Z Z Z (AC (Ow.one1 0 m bq Z) AN) Z (lb Z) Z λw m=>Aa ?_
     refine bx bv [bp,ib bu 30 [bo],ib b0 151 [a8,(iv aZ.2.2.1),(iv aZ.2.2.2)]] _ _ gr m ?_
     refine AK λbz w bA m=> ?_
     have aV:=rd2 bA aV
     have bq:=Ow.mono (RSl.mono (RI.mono _)) bA bq
     have ba:=rd1 bA ba
     refine Ac f Z λa f=>Aa ?_
     have m:=m.fr 1
     have m:=m.fr 2
     have m:Mem W bz w (ib au 30 [an]::ib b0 151 [a8,(iv aZ.2.2.1),(iv aZ.2.2.2)]::ib bu 30 [bo]::bp::ib af 30 [sn]::H):=m.fr 3
     have m:Mem W bz w (ib af 30 [sn]::ib au 30 [an]::ib b0 151 [a8,(iv aZ.2.2.1),(iv aZ.2.2.2)]::ib bu 30 [bo]::bp::H):=m.fr 4
     obtain rfl:=sj aG
     exact⟨_,_,_,_,_,_,Z,_,bu,bo,bp,an,a8,(gt aU (gt aX (gt a4 (gt bs (gt bc (gt bf (gt bm (gt bw bA)))))))),f.k Z,m,bq,aV,ba⟩
   ·intro br w bs m bt bt
    have⟨aZ,a0,aG⟩:=bind_some aG
    have⟨bh,bi,aG⟩:=bind_some aG
    have aV:=rd2 bs aV
    have aD:=rd1 bs aD
    refine Bm (cs:=[sn]) zeroValue30 m f Z Z λbu w a m f=>Aa ?_
    refine bt br [ib bu 30 [sn],ib b0 151 [aC,(iv av.2.2.1),(iv av.2.2.2)]] _ _ gr m ?_
    refine Bi 3 Z λaW w aX m aY aY=> ?_
    have aV:=rd2 aX aV
    have aD:=rd1 aX aD
    have m:Mem W aW w (ib b0 151 [aC,(iv av.2.2.1),(iv av.2.2.2)]::ib bu 30 [sn]::ib au 30 [an]::ib af 30 [sn]::H):=m.fr 1
    refine Av f Z call139 (Wk.i0 m aD aV a0) λa1 a2 a3 w a4 m a5 a f=> ?_
    obtain⟨a6,a7,a8,rfl,rfl,a9,ba⟩:=a5
    have aV:=rd2 a4 aV
    refine Aa ?_
    refine aY a2 [a7,ib b0 151 [a8,(iv aZ.2.2.1),(iv aZ.2.2.2)],ib bu 30 [sn]] _ _ a4 m ?_
    refine Bi 4 Z λbb w bc m bd bd=> ?_
    have aV:=rd2 bc aV
    have a9:=od1 bc a9
    have ba:=rd1 bc ba
    obtain⟨be,bf,m,bg⟩:=Ow.stamp (RI.mono _) a9 m
    have aV:=rd2 bf aV
    have ba:=rd1 bf ba
    refine Av f Z call138 (Wk.a0 m aV bg bi) λbj bk bl w bm m bn a f=> ?_
    obtain⟨bo,bp,rfl,rfl,bq⟩:=bn
    have aV:=rd2 bm aV
    have ba:=rd1 bm ba
    refine Aa ?_
    refine bd bk [bp,ib b0 151 [a8,(iv aZ.2.2.1),(iv aZ.2.2.2)],ib bu 30 [sn]] _ _ (gt bf bm) m ?_
    refine Ag 5 10 Z f Z λa f=>q_p 6 10 Z f (λ_=>A7 (f.e Z) Z) λa f=>q_p 7 10 Z f (λ_=>A7 (f.e Z) Z) λa f=>Bi 9 Z λbv w bw m bx bx=> ?_
    have aV:=rd2 bw aV
    have bq:=Ow.mono (RSl.mono (RI.mono _)) bw bq
    have ba:=rd1 bw ba
    refine AE 2 0 (ds:=[bo]) m sizeOf30 f Z Z Z (AC (Ow.one1 0 m bq Z) AN) Z (lb Z) Z λw m=>Aa ?_
    refine bx bv [bp,ib b0 151 [a8,(iv aZ.2.2.1),(iv aZ.2.2.2)],ib bu 30 [bo]] _ _ gr m ?_
    refine AK λbz w bA m=> ?_
    have aV:=rd2 bA aV
    have bq:=Ow.mono (RSl.mono (RI.mono _)) bA bq
    have ba:=rd1 bA ba
    refine Ac f Z λa f=>Aa ?_
    have m:=m.fr 2
    have m:=m.fr 2
    have m:Mem W bz w (ib au 30 [an]::ib b0 151 [a8,(iv aZ.2.2.1),(iv aZ.2.2.2)]::ib bu 30 [bo]::bp::ib af 30 [sn]::H):=m.fr 3
    have m:Mem W bz w (ib af 30 [sn]::ib au 30 [an]::ib b0 151 [a8,(iv aZ.2.2.1),(iv aZ.2.2.2)]::ib bu 30 [bo]::bp::H):=m.fr 4
    obtain rfl:=sj aG
    exact⟨_,_,_,_,_,_,Z,_,bu,bo,bp,an,a8,(gt aU (gt bs (gt aX (gt a4 (gt bc (gt bf (gt bm (gt bw bA)))))))),f.k Z,m,bq,aV,ba⟩
  ·rintro a w ⟨aH,aI,aJ,aK,aL,aM,rfl,aN,aO,aP,aQ,aR,aS,bB,f,m,bC,bD,bE⟩
   refine Ae ?_
   refine Ab f Z λa f=>Aa ?_
   rcases Ad hd with⟨bF,hd⟩|⟨bF,hd⟩
   ·refine Ak f Z bF ?_
    refine Ae ?_
    refine AT 3 0 (ds:=[aP]) m A8 f Z Z Z Z Z λa f=>AE 0 0 (ds:=[aP]) m sizeOf30 f Z Z Z (AC (Ow.one1 4 m bC Z) AN) Z (lb Z) Z λw m=>Aa ?_
    refine Ap ?_
    have m:Mem W aN w (aQ::ib af 30 [aP]::ib au 30 [aR]::ib b0 151 [aS,(iv aL),(iv aM)]::ib aO 30 [aP]::H):=m.fr 4
    obtain⟨bG,bH,m,bI⟩:=Ow.stamp (RSl.mono (RI.mono _)) bC m
    have bE:=rd1 bH bE
    have bJ:=BE (P:=prog) 0 m A8 f (s:=2) rfl rfl rfl
    have m:=m.fr 2
    have m:=m.eraseAt 3
    have m:Mem W bG w (ib b0 151 [aS,(iv aL),(iv aM)]::ib af 30 [aP]::H):=m.eraseAt 2
    have m:=m.eraseAt 1
    obtain rfl:=sj hd
    exact⟨[(.agg #[aP])],⟨bJ,trivial⟩,f.d,_,[ib b0 151 [aS,(iv aL),(iv aM)]],(gt al (gt aA (gt bB bH))),m,_,_,Z,Z,bI,bE⟩
   ·refine Ai f Z bF ?_
    refine Al ?_
    refine Ae ?_
    refine AT 1 0 (ds:=[aR]) m A8 f Z Z Z Z Z λa f=>AE 0 0 (ds:=[aR]) m sizeOf30 f Z Z Z (AC bD.one1 AN) Z (lb Z) Z λw m=>Aa ?_
    refine Ap ?_
    have bK:=BE (P:=prog) 0 m A8 f (s:=2) rfl rfl rfl
    have m:=m.fr 2
    have m:=m.fr 4
    have m:Mem W aN w (ib b0 151 [aS,(iv aL),(iv aM)]::aQ::ib af 30 [aR]::ib au 30 [aR]::ib aO 30 [aP]::H):=m.fr 1
    have m:=m.eraseAt 4
    have m:=m.eraseAt 3
    have m:Mem W aN w (ib b0 151 [aS,(iv aL),(iv aM)]::aQ::H):=m.eraseAt 2
    have m:=m.eraseAt 1
    obtain rfl:=sj hd
    exact⟨[(.agg #[aR])],⟨bK,trivial⟩,f.d,_,[ib b0 151 [aS,(iv aL),(iv aM)]],(gt al (gt aA bB)),m,_,_,Z,Z,bD,bE⟩
 ·refine Ai f Z aE ?_
  refine Al ?_
  refine Ae ?_
  refine AT 1 0 (ds:=[an]) m A8 f Z Z Z Z Z λa f=>AE 3 0 (ds:=[an]) m sizeOf30 f Z Z Z (AC (Ow2.one1 2 m aq Z) AN) Z (lb Z) Z λw m=>Aa ?_
  refine Ap ?_
  have m:Mem W ay w (ao::ib b0 151 [aC,(iv av.2.2.1),(iv av.2.2.2)]::ib au 30 [an]::ib af 30 [an]::H):=m.fr 2
  obtain⟨bL,bM,m,bN⟩:=Ow2.stamp (RI.mono _) aq m
  have aD:=rd1 bM aD
  have bO:=BE (P:=prog) 2 m A8 f (s:=2) rfl rfl rfl
  have m:=m.eraseAt 2
  have m:=m.eraseAt 1
  obtain rfl:=sj hd
  exact⟨[(.agg #[an])],⟨bO,trivial⟩,f.d,_,[ib b0 151 [aC,(iv av.2.2.1),(iv av.2.2.2)]],(gt al (gt aA bM)),m,_,_,Z,Z,bN,aD⟩
theorem Wk.M0 {v0:Value}{x0:LI}(m:Mem W G w (H))(h0:RSl (RI .u8) G v0 x0){y:(LL)}(hd:D.M0 x0=some y):
  Calls prog 27 #[v0] w (Res W G H (λG' Ho v=>∃r0:Value,Ho=[]∧v=(.agg #[r0])∧R2 G' r0 y)):=by
 refine As (args:=[v0]) (N:=8) [.cell 2 30] func27 Z Z (lb Z) Z λa f=> ?_
 unfold D.M0 at hd
 refine Ae ?_
 refine Bm (cs:=[sn]) zeroValue30 m f Z Z λaa w a m f=>Au ?_
 refine Ab f Z λa f=> ?_
 have⟨ab,ac,hd⟩:=bind_some hd
 refine Av f Z call74 (Wk.r1 m h0 ac) λad ae af w ag m ah a f=> ?_
 obtain⟨ai,aj,rfl,rfl,ak⟩:=ah
 refine Ac f Z λa f=>Au ?_
 refine Ab f Z λa f=> ?_
 have⟨al,am,hd⟩:=bind_some hd
 refine Av f Z call75 (Wk.S m ak am) λan ao ap w aq m ar a f=> ?_
 obtain⟨au,av,rfl,rfl,aw,ax⟩:=ar
 refine AE 1 0 (ds:=[au]) m sizeOf30 f Z Z Z (AC aw.one1 AN) Z (lb Z) Z λw m=>Aa ?_
 refine Ap ?_
 have ay:=BE (P:=prog) 1 m A8 f (s:=2) rfl rfl rfl
 have m:Mem W ao w H:=Mem.drop (H':=[ib aj 151 [av,(iv al.2.2.1),(iv al.2.2.2)],ib aa 30 [au]]) m
 obtain rfl:=sj hd
 exact⟨[(.agg #[au])],⟨ay,trivial⟩,f.d,_,[],(gt ag aq),m,_,Z,Z,aw⟩
theorem Wk.f2 {x0 x1 x2:Int}(m:Mem W G w (H)){y:Bool}(hd:D.f2 x0 x1 x2=some y):
  Calls prog 146 #[(iv x0),(iv x1),(iv x2)] w (Res W G H (λ_ Ho v=>Ho=[]∧v=(.bool y))):=by
 refine As (args:=[(iv x0),(iv x1),(iv x2)]) (N:=15) [.tmp 6] func146 Z Z (lb Z) Z λa f=> ?_
 unfold D.f2 at hd
 refine Ae ?_
 refine Ac f Z λa f=>Au ?_
 refine Ab f Z λa f=>Ab f Z λa f=>Ah f Z Z Ci λa f=>Ab f Z λa f=> ?_
 refine BJ 4 (λa w=>∃aa,GLe G aa∧Mem W aa w (H)∧Fr a 15 [(0,(iv x0)),(1,(iv x1)),(2,(iv x2)),(7,(iv x1)),(8,(iv x0)),(9,(.bool (decide (x1≤x0)))),(10,(.bool (decide (x1≤x0)))),(14,(.bool ((decide (x1≤x0))&&(decide (x0≤x2)))))]) ?_ ?_
 ·rcases Bool.eq_false_or_eq_true (decide (x1≤x0)) with ab|ab
  ·refine AI f ab ?_
   refine Ab f Z λa f=>AI f ab ?_
   refine Ab f Z λa f=>AI f ab ?_
   refine Ah f Z Z Ci λa f=>l_o f (AU (f.e Z) ab (f.e Z)) λa f=> ?_
   exact⟨_,gr,m,f.weak ⟨Z,Z,Z,Z,Z,Z,Z,by rw[ab];rfl,trivial⟩⟩
  ·refine AL f ab λa f=> ?_
   refine AL f ab λa f=>AL f ab λa f=>l_o f (AV (f.e Z) ab (f.e Z)) λa f=> ?_
   exact⟨_,gr,m,f.weak ⟨Z,Z,Z,Z,Z,Z,Z,by rw[ab];rfl,trivial⟩⟩
 ·rintro a w ⟨aa,ac,m,f⟩
  refine Ac f Z λa f=>Aa ?_
  refine Ap ?_
  obtain rfl:=sj hd
  exact⟨[(.bool ((decide (x1≤x0))&&(decide (x0≤x2))))],f.g Z,f.d,_,[],ac,m,Z,Z⟩
theorem Wk.M {v0:Value}{x0:LI}{x1:Int}(m:Mem W G w (H))(h0:R1 G v0 x0){y:Bool}(hd:D.M x0 x1=some y):
  Calls prog 95 #[v0,(iv x1)] w (Res W G H (λ_ Ho v=>Ho=[]∧v=(.bool y))):=by
 refine As (args:=[v0,(iv x1)]) (N:=33) [.tmp 4] func95 Z Z (lb Z) Z λa f=> ?_
 unfold D.M at hd
 refine Ae ?_
 refine Ac f Z λa f=>Aa (Af (Ae ?_))
 refine Ab f Z λa f=>A5 underlying42 f Z Z h0 λa f=>Ab f Z λa f=>Aa ?_
 have⟨aa,ab,hd⟩:=bind_some hd
 refine AF (λa w=>∃q_181':Unit,aa= .inl q_181'∧∃(ac:GH),GLe G ac∧Fr a 33 []∧Mem W ac w (H)) ?_ ?_
 ·refine Aj ?_
  refine AD (λad a w=>∃ae:Int,ae=ad∧∃(af:GH),GLe G af∧Fr a 33 [(0,v0),(1,(iv x1)),(7,v0),(8,(iv (x0.length:Int))),(9,(iv ae))]∧Mem W af w (H)) ab ⟨_,Z,_,gr,f.k Z,m⟩ ?_
  clear ab f m
  rintro ad ag ah ai a w ⟨ae,rfl,af,aj,f,m⟩
  have h0:=rd1 aj h0
  refine Ae ?_
  refine Ah f Z Z AH λa f=>Aa (Af ?_)
  rcases Ad ah with⟨ak,ah⟩|⟨ak,ah⟩
  ·refine Ak f Z ak ?_
   refine Al ?_
   refine Af (Aj (Ae ?_))
   refine Ab f Z λa f=> ?_
   have⟨al,am,ah⟩:=bind_some ah
   refine Bl T42 f Z Z Z h0 am λan ao a ap aq f=> ?_
   subst aq
   refine AM m Pl2 f Z Z ap λa f=>Ac f Z λa f=>Ac f Z λa f=>Au ?_
   refine Ab f Z λa f=>Ab f Z λa f=>Ah f Z Z AO λa f=> ?_
   have⟨ar,au,ah⟩:=bind_some ah
   refine Bf f Z call146 (Wk.f2 m au) λav w aw m a f=> ?_
   have h0:=rd1 aw h0
   refine l_o f (Bj (f.e Z)) λa f=>Ab f Z λa f=> ?_
   have⟨ax,ay,ah⟩:=bind_some ah
   refine BJ 12 (λa w=>∃az,GLe av az∧Mem W az w (H)∧Fr a 33 [(0,v0),(1,(iv x1)),(5,(iv ae)),(6,(iv al)),(7,v0),(8,(iv (x0.length:Int))),(9,(iv ae)),(14,(iv al)),(15,(iv x1)),(16,(iv (i64.wrap (x1-1)))),(17,(.bool ar)),(18,(.bool (!ar))),(19,(.bool (!ar))),(31,(.bool ax))]) ?_ ?_
   ·rcases Ad ay with⟨aA,ay⟩|⟨aA,ay⟩
    ·refine AL f aA λa f=> ?_
     refine AL f aA λa f=>AL f aA λa f=>ED f Z Z Z λa f=>ED f Z Z Z λa f=>ED f Z Z Z λa f=>ED f Z Z Z λa f=>ED f Z Z Z λa f=>ED f Z Z Z λa f=>ED f Z Z Z λa f=>AL f aA λa f=>l_o f (AU (f.e Z) aA (f.e Z)) λa f=> ?_
     obtain rfl:=sj ay
     exact⟨_,gr,m,f.k Z⟩
    ·refine AI f aA ?_
     refine Ab f Z λa f=>AI f aA ?_
     refine Ah f Z Z Ce λa f=>AI f aA ?_
     refine Ab f Z λa f=> ?_
     have⟨aB,aC,ay⟩:=bind_some ay
     refine BJ 8 (λa w=>∃aD,GLe av aD∧Mem W aD w (H)∧Fr a 33 [(0,v0),(1,(iv x1)),(5,(iv ae)),(6,(iv al)),(7,v0),(8,(iv (x0.length:Int))),(9,(iv ae)),(14,(iv al)),(15,(iv x1)),(16,(iv (i64.wrap (x1-1)))),(17,(.bool ar)),(18,(.bool (!ar))),(19,(.bool (!ar))),(20,(iv ae)),(21,(.bool (decide ((0:Int)<ae)))),(22,(.bool (decide ((0:Int)<ae)))),(30,(.bool aB))]) ?_ ?_
     ·rcases Ad aC with⟨aE,aC⟩|⟨aE,aC⟩
      ·refine AI f aE ?_
       refine Ab f Z λa f=>AI f aE ?_
       refine Ab f Z λa f=>AI f aE ?_
       refine Ah f Z Z AO λa f=>AI f aE ?_
       have⟨aF,aG,aC⟩:=bind_some aC
       refine Bl T42 f Z Z Z h0 aG λaH aI a aJ aK f=> ?_
       subst aK
       refine AI f aE ?_
       refine AM m Pl2 f Z Z aJ λa f=>AI f aE ?_
       refine Ab f Z λa f=>AI f aE ?_
       refine Ah f Z Z BT λa f=>AI f aA ?_
       refine l_o f (AU (f.e Z) aE (f.e Z)) λa f=> ?_
       obtain rfl:=sj aC
       exact⟨_,gr,m,f.k Z⟩
      ·refine AL f aE λa f=> ?_
       refine AL f aE λa f=>AL f aE λa f=>AL f aE λa f=>AL f aE λa f=>AL f aE λa f=>AL f aE λa f=>AI f aA ?_
       refine l_o f (AV (f.e Z) aE (f.e Z)) λa f=> ?_
       obtain rfl:=sj aC
       exact⟨_,gr,m,f.k Z⟩
     ·rintro a w ⟨aD,aL,m,f⟩
      refine l_o f (AV (f.e Z) aA (f.e Z)) λa f=> ?_
      obtain rfl:=sj ay
      exact⟨_,aL,m,f.k Z⟩
   ·rintro a w ⟨az,aM,m,f⟩
    refine Aa ?_
    rcases Ad ah with⟨aN,ah⟩|⟨aN,ah⟩
    ·refine Ak f Z aN ?_
     refine Ae ?_
     refine Ac f Z λa f=>Aa ?_
     refine Ap ?_
     obtain rfl:=sj ah
     obtain rfl:=ai _ rfl
     obtain rfl:=sj hd
     exact⟨[(.bool false)],f.g Z,f.d,_,[],(gt aj (gt aw aM)),m,Z,Z⟩
    ·refine Ai f Z aN ?_
     refine Al ?_
     refine Am ?_
     refine Ah f Z Z Ar λa f=>Ab f Z λa f=>Aa ?_
     obtain rfl:=sj ah
     exact⟨_,Z,_,Z,_,(gt aj (gt aw aM)),f.k Z,m⟩
  ·refine Ai f Z ak ?_
   refine Ax Z ?_
   obtain rfl:=sj ah
   obtain rfl:=ai _ rfl
   exact⟨_,Z,_,aj,f.weak trivial,m⟩
 ·rintro a w ⟨_,rfl,ac,aO,f,m⟩
  refine Ae ?_
  refine Ac f Z λa f=>Aa ?_
  refine Ap ?_
  obtain rfl:=sj hd
  exact⟨[(.bool true)],f.g Z,f.d,_,[],aO,m,Z,Z⟩
theorem Wk.Q {aa:Value}{ab:LL}(m:Mem W G w (H))(ac:R2 G aa ab){y:Bool}(hd:D.Q ab=some y):
  Calls prog 93 #[(.agg #[aa])] w (Res W G H (λ_ Ho v=>Ho=[]∧v=(.bool y))):=by
 refine As (args:=[(.agg #[aa])]) (N:=61) [.tmp 2] func93 Z Z (lb Z) Z λa f=> ?_
 unfold D.Q at hd
 refine Ae ?_
 refine By (cs:=[aa]) m f Z Z Z λad w a m f=>Ac f Z λa f=>Au ?_
 refine Bu underlying30 Z sizeOf22 f Z λa f=>AJ 0 0 m Bd f Z Z Z Z λa f=>A5 underlying22 f Z Z ac λa f=>Ac f Z λa f=>Aa (Af (Ae ?_))
 refine Ab f Z λa f=>Ah f Z Z AH λa f=>Ab f Z λa f=> ?_
 refine BJ 3 (λa w=>∃ae,GLe G ae∧Mem W ae w (ib ad 30 [aa]::H)∧Fr a 61 [(0,(.agg #[aa])),(1,(pb ad)),(3,(iv (ab.length:Int))),(13,(iv (ab.length:Int))),(14,(.bool (decide ((ab.length:Int)<1)))),(15,(.bool (decide ((ab.length:Int)<1)))),(18,(.bool ((decide ((ab.length:Int)<1))||(decide ((16:Int)<(ab.length:Int))))))]) ?_ ?_
 ·rcases Bool.eq_false_or_eq_true (decide ((ab.length:Int)<1)) with af|af
  ·refine AL f af λa f=> ?_
   refine AL f af λa f=>l_o f (AU (f.e Z) af (f.e Z)) λa f=> ?_
   exact⟨_,gr,m,f.weak ⟨Z,Z,Z,Z,Z,Z,by rw[af];rfl,trivial⟩⟩
  ·refine AI f af ?_
   refine Ab f Z λa f=>AI f af ?_
   refine Ah f Z Z Ce λa f=>l_o f (AV (f.e Z) af (f.e Z)) λa f=> ?_
   exact⟨_,gr,m,f.weak ⟨Z,Z,Z,Z,Z,Z,by rw[af];rfl,trivial⟩⟩
 ·rintro a w ⟨ae,ag,m,f⟩
  have ac:=rd2 ag ac
  refine Aa ?_
  rcases Ad hd with⟨ah,hd⟩|⟨ah,hd⟩
  ·refine Ak f Z ah ?_
   refine Ae ?_
   refine Ac f Z λa f=>Aa ?_
   refine Ap ?_
   have m:Mem W ae w H:=Mem.drop (H':=[ib ad 30 [aa]]) m
   obtain rfl:=sj hd
   exact⟨[(.bool false)],f.g Z,f.d,_,[],ag,m,Z,Z⟩
  ·refine Ai f Z ah ?_
   refine Al ?_
   refine Af (Ae ?_)
   refine Bu underlying30 Z sizeOf22 f Z λa f=>AJ 0 0 m Bd f Z Z Z Z λa f=>A5 underlying22 f Z Z ac λa f=>Ab f Z λa f=>Aa ?_
   have⟨ai,aj,hd⟩:=bind_some hd
   refine AF (λa w=>∃q_91':Unit,ai= .inl q_91'∧∃(ak:GH),GLe ae ak∧Fr a 61 [(1,(pb ad))]∧Mem W ak w (ib ad 30 [aa]::H)) ?_ ?_
   ·refine Aj ?_
    refine AD (λal a w=>∃am:Int,am=al∧∃(an:GH),GLe ae an∧Fr a 61 [(1,(pb ad)),(3,(iv (ab.length:Int))),(20,aa),(21,(iv (ab.length:Int))),(22,(iv am))]∧Mem W an w (ib ad 30 [aa]::H)) aj ⟨_,Z,_,gr,f.k Z,m⟩ ?_
    clear aj f m
    rintro al ao ap aq a w ⟨am,rfl,an,ar,f,m⟩
    have ac:=rd2 ar ac
    refine Ae ?_
    refine Ah f Z Z AH λa f=>Aa (Af ?_)
    rcases Ad ap with⟨au,ap⟩|⟨au,ap⟩
    ·refine Ak f Z au ?_
     refine Al ?_
     refine Af (Aj (Ae ?_))
     refine Ab f Z λa f=> ?_
     have⟨av,aw,ap⟩:=bind_some ap
     refine Bl T22 f Z Z Z ac aw λax ay a az aA f=>AM m AZ f Z Z az λa f=>Ac f Z λa f=>Ac f Z λa f=>Au ?_
     refine Ab f Z λa f=>Ab f Z λa f=> ?_
     have⟨aB,aC,ap⟩:=bind_some ap
     refine Bf f Z call95 (Wk.M m aA aC) λaD w aE m a f=> ?_
     have aA:=rd1 aE aA
     refine l_o f (Bj (f.e Z)) λa f=>Ab f Z λa f=> ?_
     have⟨aF,aG,ap⟩:=bind_some ap
     refine BJ 4 (λa w=>∃aH,GLe aD aH∧Mem W aH w (ib ad 30 [aa]::H)∧Fr a 61 [(1,(pb ad)),(3,(iv (ab.length:Int))),(4,(iv am)),(5,ay),(20,aa),(21,(iv (ab.length:Int))),(22,(iv am)),(27,ay),(28,(iv (ab.length:Int))),(29,(.bool aB)),(30,(.bool (!aB))),(31,(.bool (!aB))),(35,(.bool aF))]) ?_ ?_
     ·rcases Ad aG with⟨aI,aG⟩|⟨aI,aG⟩
      ·refine AL f aI λa f=> ?_
       refine AL f aI λa f=>AL f aI λa f=>l_o f (AU (f.e Z) aI (f.e Z)) λa f=> ?_
       obtain rfl:=sj aG
       exact⟨_,gr,m,f.k Z⟩
      ·refine AI f aI ?_
       refine Ab f Z λa f=>AI f aI ?_
       refine Ab f Z λa f=>AI f aI ?_
       have⟨aJ,aK,aG⟩:=bind_some aG
       refine Bf f Z call109 (Wk.y0 m aA aK) λaL w aM m a f=>l_o f (AV (f.e Z) aI (f.e Z)) λa f=> ?_
       obtain rfl:=sj aG
       exact⟨_,aM,m,f.k Z⟩
     ·rintro a w ⟨aH,aN,m,f⟩
      refine Aa ?_
      rcases Ad ap with⟨aO,ap⟩|⟨aO,ap⟩
      ·refine Ak f Z aO ?_
       refine Ae ?_
       refine Ac f Z λa f=>Aa ?_
       refine Ap ?_
       have m:Mem W aH w H:=Mem.drop (H':=[ib ad 30 [aa]]) m
       obtain rfl:=sj ap
       obtain rfl:=aq _ rfl
       obtain rfl:=sj hd
       exact⟨[(.bool false)],f.g Z,f.d,_,[],(gt ag (gt ar (gt aE aN))),m,Z,Z⟩
      ·refine Ai f Z aO ?_
       refine Al ?_
       refine Am ?_
       refine Ah f Z Z Ar λa f=>Ab f Z λa f=>Aa ?_
       obtain rfl:=sj ap
       exact⟨_,Z,_,Z,_,(gt ar (gt aE aN)),f.k Z,m⟩
    ·refine Ai f Z au ?_
     refine Ax Z ?_
     obtain rfl:=sj ap
     obtain rfl:=aq _ rfl
     exact⟨_,Z,_,ar,f.k Z,m⟩
   ·rintro a w ⟨_,rfl,ak,aP,f,m⟩
    have ac:=rd2 aP ac
    refine Af (Ae ?_)
    refine Bu underlying30 Z sizeOf22 f Z λa f=>AJ 0 0 m Bd f Z Z Z Z λa f=>A5 underlying22 f Z Z ac λa f=>Ab f Z λa f=>Aa ?_
    have⟨aQ,aR,hd⟩:=bind_some hd
    refine AF (λa w=>∃q_394':Unit,aQ= .inl q_394'∧∃(aS:GH),GLe ak aS∧Fr a 61 []∧Mem W aS w (H)) ?_ ?_
    ·refine Aj ?_
     refine AD (λaT a w=>∃aU:Int,aU=aT∧∃(aV:GH),GLe ak aV∧Fr a 61 [(1,(pb ad)),(38,aa),(39,(iv (ab.length:Int))),(40,(iv aU))]∧Mem W aV w (ib ad 30 [aa]::H)) aR ⟨_,Z,_,gr,f.k Z,m⟩ ?_
     clear aR f m
     rintro aT aW aX aY a w ⟨aU,rfl,aV,aZ,f,m⟩
     have ac:=rd2 aZ ac
     refine Ae ?_
     refine Ah f Z Z AH λa f=>Aa (Af ?_)
     rcases Ad aX with⟨a0,aX⟩|⟨a0,aX⟩
     ·refine Ak f Z a0 ?_
      refine Al ?_
      refine Af (Aj (Ae ?_))
      refine Ab f Z λa f=> ?_
      have⟨a1,a2,aX⟩:=bind_some aX
      refine Bl T22 f Z Z Z ac a2 λa3 a4 a a5 a6 f=>AM m AZ f Z Z a5 λa f=>Ac f Z λa f=>Ac f Z λa f=>Au ?_
      refine Ab f Z λa f=>A5 underlying42 f Z Z a6 λa f=>Ab f Z λa f=>Aa ?_
      have⟨a7,a8,aX⟩:=bind_some aX
      refine AF (λa w=>∃q_560':Unit,a7= .inl q_560'∧∃(a9:GH),GLe aV a9∧Fr a 61 [(1,(pb ad)),(38,aa),(39,(iv (ab.length:Int))),(40,(iv aU))]∧Mem W a9 w (ib ad 30 [aa]::H)) ?_ ?_
      ·refine Aj ?_
       refine AD (λba a w=>∃bb:Int,bb=ba∧∃(bc:GH),GLe aV bc∧Fr a 61 [(1,(pb ad)),(6,(iv aU)),(38,aa),(39,(iv (ab.length:Int))),(40,(iv aU)),(45,a4),(46,(iv (a1.length:Int))),(47,(iv bb))]∧Mem W bc w (ib ad 30 [aa]::H)) a8 ⟨_,Z,_,gr,f.k Z,m⟩ ?_
       clear a8 f m
       rintro ba bd be bf a w ⟨bb,rfl,bc,bg,f,m⟩
       have ac:=rd2 bg ac
       have a6:=rd1 bg a6
       refine Ae ?_
       refine Ah f Z Z AH λa f=>Aa (Af ?_)
       rcases Ad be with⟨bh,be⟩|⟨bh,be⟩
       ·refine Ak f Z bh ?_
        refine Al ?_
        refine Af (Aj (Ae ?_))
        have⟨bi,bj,be⟩:=bind_some be
        refine Bl T42 f Z Z Z a6 bj λbk bl a bm bn f=> ?_
        subst bn
        refine AM m Pl2 f Z Z bm λa f=>Ac f Z λa f=>Au ?_
        refine Bu underlying30 Z sizeOf22 f Z λa f=>AJ 0 0 m Bd f Z Z Z Z λa f=>Ab f Z λa f=> ?_
        have⟨bo,bp,be⟩:=bind_some be
        refine Bl T22 f Z Z Z ac bp λbq br a bs bt f=>AM m AZ f Z Z bs λa f=>Ab f Z λa f=> ?_
        have⟨bu,bv,be⟩:=bind_some be
        refine Bf f Z call109 (Wk.y0 m bt bv) λbw w bx m a f=>l_o f (Bj (f.e Z)) λa f=>Aa ?_
        rcases Ad be with⟨bz,be⟩|⟨bz,be⟩
        ·refine Ak f Z bz ?_
         refine Ae ?_
         refine Ac f Z λa f=>Aa ?_
         refine Ap ?_
         have m:Mem W bw w H:=Mem.drop (H':=[ib ad 30 [aa]]) m
         obtain rfl:=sj be
         obtain rfl:=bf _ rfl
         obtain rfl:=sj aX
         obtain rfl:=aY _ rfl
         obtain rfl:=sj hd
         exact⟨[(.bool false)],f.g Z,f.d,_,[],(gt ag (gt aP (gt aZ (gt bg bx)))),m,Z,Z⟩
        ·refine Ai f Z bz ?_
         refine Al ?_
         refine Am ?_
         refine Ah f Z Z Ar λa f=>Ab f Z λa f=>Aa ?_
         obtain rfl:=sj be
         exact⟨_,Z,_,Z,_,(gt bg bx),f.k Z,m⟩
       ·refine Ai f Z bh ?_
        refine Ax Z ?_
        obtain rfl:=sj be
        obtain rfl:=bf _ rfl
        exact⟨_,Z,_,bg,f.k Z,m⟩
      ·rintro a w ⟨_,rfl,a9,bA,f,m⟩
       refine Am ?_
       refine Ah f Z Z Ar λa f=>Ab f Z λa f=>Aa ?_
       obtain rfl:=sj aX
       exact⟨_,Z,_,Z,_,(gt aZ bA),f.k Z,m⟩
     ·refine Ai f Z a0 ?_
      refine Ax Z ?_
      have m:Mem W aV w H:=Mem.drop (H':=[ib ad 30 [aa]]) m
      obtain rfl:=sj aX
      obtain rfl:=aY _ rfl
      exact⟨_,Z,_,aZ,f.weak trivial,m⟩
    ·rintro a w ⟨_,rfl,aS,bB,f,m⟩
     refine Ae ?_
     refine Ac f Z λa f=>Aa ?_
     refine Ap ?_
     obtain rfl:=sj hd
     exact⟨[(.bool true)],f.g Z,f.d,_,[],(gt ag (gt aP bB)),m,Z,Z⟩
theorem Wk.e {x0:Int}(m:Mem W G w (H)){y:Int}(hd:D.e x0=some y):
  Calls prog 100 #[(iv x0)] w (Res W G H (λ_ Ho v=>Ho=[]∧v=(.int .u32 y))):=by
 refine As (args:=[(iv x0)]) (N:=5) [.tmp 2] func100 Z Z (lb Z) Z λa f=> ?_
 unfold D.e at hd
 refine Ae ?_
 refine Ac f Z λa f=>Au ?_
 refine Ab f Z λa f=> ?_
 obtain⟨aa,hd⟩:=D3 hd
 refine l_o f (r_shl (f.e Z) (f.e Z) aa) λa f=>Ac f Z λa f=>Aa ?_
 refine Ap ?_
 obtain rfl:=sj hd
 exact⟨[(.int .u32 (ishl .u32 1 x0))],f.g Z,f.d,_,[],gr,m,Z,Z⟩
theorem Wk.p0 {v0:Value}{x0:LI}(m:Mem W G w (H))(h0:R1 G v0 x0){y:Int}(hd:D.p0 x0=some y):
  Calls prog 118 #[v0] w (Res W G H (λ_ Ho v=>Ho=[]∧v=(.int .u32 y))):=by
 refine As (args:=[v0]) (N:=18) [.tmp 2] func118 Z Z (lb Z) Z λa f=> ?_
 unfold D.p0 at hd
 refine Ae ?_
 refine Ac f Z λa f=>Au ?_
 refine Ac f Z λa f=>Aa (Af (Ae ?_))
 refine Ab f Z λa f=>A5 underlying42 f Z Z h0 λa f=>Ab f Z λa f=>Aa ?_
 have⟨aa,ab,hd⟩:=bind_some hd
 refine AF (λa w=>∃ac:Int,ac=aa∧∃(ad:GH),GLe G ad∧Fr a 18 [(3,(.int .u32 ac))]∧Mem W ad w (H)) ?_ ?_
 ·refine Aj ?_
  refine AD (λae a w=>∃af:Int,∃ag:Int,(af,ag)=ae∧∃(ah:GH),GLe G ah∧Fr a 18 [(3,(.int .u32 af)),(6,v0),(7,(iv (x0.length:Int))),(8,(iv ag))]∧Mem W ah w (H)) ab ⟨_,_,Z,_,gr,f.k Z,m⟩ ?_
  clear ab f m
  rintro ae ai aj ak a w ⟨af,ag,rfl,ah,al,f,m⟩
  have h0:=rd1 al h0
  refine Ae ?_
  refine Ah f Z Z AH λa f=>Aa (Af ?_)
  rcases Ad aj with⟨am,aj⟩|⟨am,aj⟩
  ·refine Ak f Z am ?_
   refine Al ?_
   refine Af (Aj (Ae ?_))
   have⟨an,ao,aj⟩:=bind_some aj
   refine Bl T42 f Z Z Z h0 ao λap aq a ar au f=> ?_
   subst au
   refine AM m Pl2 f Z Z ar λa f=>Ac f Z λa f=>Aa (Am ?_)
   refine Ab f Z λa f=>Ab f Z λa f=> ?_
   have⟨av,aw,aj⟩:=bind_some aj
   refine Bf f Z call100 (Wk.e m aw) λax w ay m a f=>Ah f Z Z b_or λa f=>Ac f Z λa f=>Aa (Am ?_)
   refine Ah f Z Z Ar λa f=>Ab f Z λa f=>Aa ?_
   obtain rfl:=sj aj
   exact⟨_,Z,_,_,Z,_,(gt al ay),f.k Z,m⟩
  ·refine Ai f Z am ?_
   refine Ax Z ?_
   obtain rfl:=sj aj
   obtain rfl:=ak _ rfl
   exact⟨_,Z,_,al,f.k Z,m⟩
 ·rintro a w ⟨ac,rfl,ad,az,f,m⟩
  refine Ae ?_
  refine Ab f Z λa f=>Ac f Z λa f=>Aa ?_
  refine Ap ?_
  obtain rfl:=sj hd
  exact⟨[(.int .u32 ac)],f.g Z,f.d,_,[],az,m,Z,Z⟩
theorem Wk.F {aa:Value}{ab:LL}(m:Mem W G w (H))(ac:R2 G aa ab){y:(LI)}(hd:D.F ab=some y):
  Calls prog 50 #[(.agg #[aa])] w (Res W G H (λG' Ho v=>∃r0:Value,∃i0:Itm,Ho=[i0]∧r0=v∧Ow (RI .u32) 76 G' i0 r0 y)):=by
 refine As (args:=[(.agg #[aa])]) (N:=21) [.tmp 2] func50 Z Z (lb Z) Z λa f=> ?_
 unfold D.F at hd
 refine Ae ?_
 refine By (cs:=[aa]) m f Z Z Z λad w a m f=>Ac f Z λa f=>Au ?_
 refine AY (R:=(RI .u32)) (xs:=([]:LI)) (RI.one _) m T73 f Z Z Z (by decide) (All2.nil _) λae af w a m ag f=>Ac f Z λa f=>Aa (Af (Ae ?_))
 refine Bu underlying30 Z sizeOf22 f Z λa f=>AJ 1 0 m Bd f Z Z Z Z λa f=>A5 underlying22 f Z Z ac λa f=>Ab f Z λa f=>Aa ?_
 have⟨ah,ai,hd⟩:=bind_some hd
 refine AF (λa w=>∃aj:LI,aj=ah∧∃(ak:GH) (al:Value) (am:Itm),GLe G ak∧Fr a 21 [(3,al)]∧Mem W ak w (am::H)∧Ow (RI .u32) 76 ak am al aj) ?_ ?_
 ·refine Aj ?_
  have m:=m.eraseAt 1
  refine AD (λan a w=>∃ao:LI,∃ap:Int,(ao,ap)=an∧∃(aq:GH) (ar:Value) (au:Itm),GLe G aq∧Fr a 21 [(3,ar),(8,aa),(9,(iv (ab.length:Int))),(10,(iv ap))]∧Mem W aq w (au::H)∧Ow (RI .u32) 76 aq au ar ao) ai ⟨_,_,Z,_,af,ae,gr,f.k Z,m,ag⟩ ?_
  clear ai f m
  rintro an av aw ax a w ⟨ao,ap,rfl,aq,ar,au,ay,f,m,az⟩
  have ac:=rd2 ay ac
  refine Ae ?_
  refine Ah f Z Z AH λa f=>Aa (Af ?_)
  rcases Ad aw with⟨aA,aw⟩|⟨aA,aw⟩
  ·refine Ak f Z aA ?_
   refine Al ?_
   refine Af (Aj (Ae ?_))
   have⟨aB,aC,aw⟩:=bind_some aw
   refine Bl T22 f Z Z Z ac aC λaD aE a aF aG f=>AM m AZ f Z Z aF λa f=>Ac f Z λa f=>Aa (Am ?_)
   refine Ab f Z λa f=>Ab f Z λa f=> ?_
   have⟨aH,aI,aw⟩:=bind_some aw
   refine Bf f Z call118 (Wk.p0 m aG aI) λaJ w aK m a f=> ?_
   have az:=od1 aK az
   refine AY (R:=(RI .u32)) (xs:=([aH]:LI)) (RI.one _) m T73 f Z Z Z (by decide) (All2.cons Z (All2.nil _)) λaL aM w a m aN f=> ?_
   have⟨aO,aP,aw⟩:=bind_some aw
   refine Bh (RI.one _) 1 m az Z T73 Z (by decide) f Z Z Z (Ow.src (j:=0) aN m Z) aP λaQ aR w a m aS f=>Ac f Z λa f=>Aa (Am ?_)
   refine Ah f Z Z Ar λa f=>Ab f Z λa f=>Aa ?_
   have m:=m.fr 1
   have m:=m.eraseAt 1
   obtain rfl:=sj aw
   exact⟨_,Z,_,_,Z,_,aR,aQ,(gt ay aK),f.k Z,m,aS⟩
  ·refine Ai f Z aA ?_
   refine Ax Z ?_
   obtain rfl:=sj aw
   obtain rfl:=ax _ rfl
   exact⟨_,Z,_,ar,au,ay,f.k Z,m,az⟩
 ·rintro a w ⟨aj,rfl,ak,al,am,aT,f,m,aU⟩
  refine Ae ?_
  refine Ab f Z λa f=>Ac f Z λa f=>Aa ?_
  refine Ap ?_
  obtain rfl:=sj hd
  exact⟨[al],f.g Z,f.d,_,[am],aT,m,_,_,Z,Z,aU⟩
theorem Wk.T0 {x0:Int}(m:Mem W G w (H)){y:Int}(hd:D.T0 x0=some y):
  Calls prog 120 #[(iv x0)] w (Res W G H (λ_ Ho v=>Ho=[]∧v=(.int .u32 y))):=by
 refine As (args:=[(iv x0)]) (N:=6) [.tmp 2] func120 Z Z (lb Z) Z λa f=> ?_
 unfold D.T0 at hd
 refine Ae ?_
 refine Ac f Z λa f=>Au ?_
 refine Ab f Z λa f=> ?_
 obtain⟨aa,hd⟩:=D3 hd
 refine l_o f (r_shl (f.e Z) (f.e Z) aa) λa f=>Ah f Z Z AO λa f=>Ac f Z λa f=>Aa ?_
 refine Ap ?_
 obtain rfl:=sj hd
 exact⟨[(.int .u32 (IntKind.u32.wrap ((ishl .u32 1 x0)-1)))],f.g Z,f.d,_,[],gr,m,Z,Z⟩
theorem Wk.r {v0:Value}{x0:LI}(m:Mem W G w (H))(h0:RSl (RI .u32) G v0 x0){y:Int}(hd:D.r x0=some y):
  Calls prog 53 #[v0] w (Res W G H (λ_ Ho v=>Ho=[]∧v=(.int .u32 y))):=by
 refine As (args:=[v0]) (N:=6) [.tmp 2] func53 Z Z (lb Z) Z λa f=> ?_
 unfold D.r at hd
 refine Ae ?_
 refine Ac f Z λa f=>Au ?_
 refine Ab f Z λa f=>A5 underlying73 f Z Z h0 λa f=> ?_
 have⟨aa,ab,hd⟩:=bind_some hd
 refine Bf f Z call120 (Wk.T0 m ab) λac w ad m a f=>Ac f Z λa f=>Aa ?_
 refine Ap ?_
 obtain rfl:=sj hd
 exact⟨[(.int .u32 aa)],f.g Z,f.d,_,[],ad,m,Z,Z⟩
end Go.Proofs.YtebbefpdncgoiaaGreatDoor
