/- Parts. -/
import Derived.Test.YthdcaieaajekcaaGreatDoorMo3
import Derived.Test.YthdcaieaajekcaaGreatDoorProg
import Derived.KernelRfl
set_option linter.unusedVariables false
set_option linter.unusedSimpArgs false
set_option linter.unusedSectionVars false
set_option maxRecDepth 100000
namespace Go.Proofs.YthdcaieaajekcaaGreatDoor
open Go Go.Sx
open Go.Proofs.Tryz Go.Proofs.YthdcaieaajekcaaGreatDoor.Tryz IntKind
variable {W w : World} {G : GH} {H : List Itm}
theorem Wk.a {x0 x1:Int}(hW:BD W)(m:Mem W G w (H)){y:Int}(hd:D.a x0 x1=some y):
  Calls prog 80 #[(.int .u32 x0),(.int .u32 x1)] w (Res W G H (λ_ Ho v=>Ho=[]∧v=(iv y))):=by
 refine Aw (args:=[(.int .u32 x0),(.int .u32 x1)]) (N:=18) [.tmp 4] func80 Z Z (lb Z) Z λa f=> ?_
 unfold D.a at hd
 refine Af (Ac f Z λa f=>Aa (Ag (Af (Ab f Z λa f=>Bd hd λaa ab hd=>A1 f Z call48 (Wk.k m ab) λac w ad m a f=>Ab f Z λa f=>Bd hd λae af hd=>A1 f Z call48 (Wk.k m af) λag w ah m a f=>Ah f Z Z BN λa f=>Aa ?_))))
 rcases Ae hd with⟨ai,hd⟩|⟨ai,hd⟩
 ·refine An f Z ai (Af (Ab f Z λa f=>Bd hd λaj ak hd=>A1 f Z call48 (Wk.k m ak) λal w am m a f=>Ab f Z λa f=>Bd hd λan ao hd=>A1 f Z call48 (Wk.k m ao) λap w aq m a f=>Ah f Z Z AT λa f=>Ac f Z λa f=>Aa (Aq ?_)))
  obtain rfl:=sj hd
  exact⟨[(iv (i64.wrap (aj-an)))],f.g Z,f.d,_,[],(gt ad (gt ah (gt am aq))),m,Z,Z⟩
 ·refine Ai f Z ai (Ao (Af (Ab f Z λa f=>Ab f Z λa f=>Bd hd λar au hd=>A1 f Z call96 (Wk.H0 hW m au) λav w aw m a f=>Ac f Z λa f=>Aa (Aq ?_))))
  obtain rfl:=sj hd
  exact⟨[iv ar],f.g Z,f.d,_,[],(gt ad (gt ah aw)),m,Z,Z⟩
theorem Wk.x1 {v0:Value}{it0:Itm}{x0:LI}{x1 x2:Int}(hW:BD W)(m:Mem W G w (it0::H))(o0:Ow (RI .u32) 58 G it0 v0 x0){y:(LI)}(hd:D.x1 x0 x1 x2=some y):
  Calls prog 99 #[v0,iv x1,iv x2,Fv 80] w (Res W G H (λG' Ho _=>∃i0:Itm,Ho=[i0]∧Ow (RI .u32) 58 G' i0 v0 y)):=by
 refine Aw (args:=[v0,iv x1,iv x2,Fv 80]) (N:=53) [] func99 Z Z (lb Z) Z λa f=> ?_
 unfold D.x1 at hd
 refine Af (Ab f Z λa f=>Ah f Z Z Ax λa f=>Ac f Z λa f=>Aa (Bd hd λaa ab hd=> ?_))
 refine AH (λa w=>∃ac:LI,ac=aa∧∃(ad:GH) (ae:Itm),GLe G ad∧Fr a 53 []∧Mem W ad w (ae::H)∧Ow (RI .u32) 58 ad ae v0 ac) ?_ ?_
 ·refine Al (AE (λaf a w=>∃ag:LI,∃ah:Int,(ag,ah)=af∧∃(ai:GH) (aj:Itm),GLe G ai∧Fr a 53 [(0,v0),(1,iv x1),(2,iv x2),(3,Fv 80),(8,iv ah)]∧Mem W ai w (aj::H)∧Ow (RI .u32) 58 ai aj v0 ag) ab ⟨_,_,Z,_,it0,gr,f.k Z,m,o0⟩ ?_)
  clear ab f m
  rintro af ak al am a w ⟨ag,ah,rfl,ai,aj,an,f,m,ao⟩
  refine Ag (Af (Ab f Z λa f=>Ab f Z λa f=>Ah f Z Z AJ λa f=>Aa ?_))
  rcases Ae al with⟨ap,al⟩|⟨ap,al⟩
  ·refine An f Z ap (Ao (Ag (Al (Af (Ab f Z λa f=>Ac f Z λa f=>Aa (Bd al λaq ar al=> ?_))))))
   refine AH (λa w=>∃au:LI,au=aq∧∃(av:GH) (aw:Itm),GLe ai av∧Fr a 53 [(0,v0),(1,iv x1),(2,iv x2),(3,Fv 80),(8,iv ah)]∧Mem W av w (aw::H)∧Ow (RI .u32) 58 av aw v0 au) ?_ ?_
   ·refine Al (AE (λax a w=>∃ay:LI,∃az:Int,(ay,az)=ax∧∃(aA:GH) (aB:Itm),GLe ai aA∧Fr a 53 [(0,v0),(1,iv x1),(2,iv x2),(3,Fv 80),(8,iv ah),(9,iv az)]∧Mem W aA w (aB::H)∧Ow (RI .u32) 58 aA aB v0 ay) ar ⟨_,_,Z,_,aj,gr,f.k Z,m,ao⟩ ?_)
    clear ar f m
    rintro ax aC aD aE a w ⟨ay,az,rfl,aA,aB,aF,f,m,aG⟩
    refine Ag (Ag (A8 17 AR (by kernel_rfl) m (Am 0 17 Z f Z λa f=>Am 1 17 Z f Z λa f=>q_p 2 17 Z f (λ_=>AP (f.e Z) (f.e Z) BX) λa f=>Am 3 17 Z f Z λa f=>Bd aD λaH aI aD=>BQ (fuel':=0) (listed':= #[true,true,true,true,true,true,true,true,true,true,true,true,true,true,true,true,true]) (λa=>Fr a 53 [(0,v0),(1,iv x1),(2,iv x2),(3,Fv 80),(8,iv ah),(9,iv az),(18,iv az),(19,iv x1),(20,(.bool (decide (x1<az)))),(21,(.bool (decide (x1<az)))),(34,(.bool aH))]) ?_ ?_)))
    ·intro a f
     refine A4 λaJ w aK m=>have aG:=od1 aK aG;Aa ?_
     rcases Ae aD with⟨aL,aD⟩|⟨aL,aD⟩
     ·refine An f Z aL (Ao (Ag (Al (B9 AR m (p_p 2 Z f (λ_=>Br (f.e Z)) λa f=>p_p 3 Z f (λ_=>Br (f.e Z)) λa f=>p_p 4 Z f (λ_=>AP (f.e Z) (f.e Z) AT) λa f=>Ca 28015 12 (by kernel_rfl) Z (Am 0 28015 Z f Z λa f=>Am 1 28015 Z f Z λa f=>Am 5 28015 Z f Z λa f=>Am 6 28015 Z f Z λa f=>q_p 7 28015 Z f (λ_=>AP (f.e Z) (f.e Z) AT) λa f=>Bd aD λaM aN aD=>A3 8 28015 0 m aG T52 aN Z f Z Z λaO a aP f=>Bg 9 28015 0 aG A7 aP aN Z f Z λaQ a aR f=> ?_))))))
      subst aR
      refine Am 10 28015 Z f Z λa f=>Am 11 28015 Z f Z λa f=>Bd aD λaS aT aD=>A3 12 28015 0 m aG T52 aT Z f Z Z λaU a aV f=>Bg 13 28015 0 aG A7 aV aT Z f Z λaW a aX f=> ?_
      subst aX
      refine Bd aD λaY aZ aD=>A3 14 28015 0 m aG T52 aZ Z f Z Z λa0 a a1 f=>A4 λa2 w a3 m=>have aG:=od1 a3 aG;AW 0 m aG Z sizeOf58 f Z Z a1 aZ Z Z Z λa4 w m a5=>Bd aD λa6 a7 aD=>Bq 0 m a5 Z T52 f Z Z Z a7 λa8 a a9 f=>AW 0 m a5 Z sizeOf58 f Z Z a9 a7 Z Z Z λba w m bb=>Aa (Ak (Ab f Z λa f=>Ah f Z Z AT λa f=>Ac f Z λa f=>Aa ?_))
      obtain rfl:=sj aD
      exact⟨_,Z,_,_,Z,_,ba,(gt aF (gt aK a3)),f.k Z,m,bb⟩
     ·refine Ai f Z aL (AB Z ?_)
      obtain rfl:=sj aD
      obtain rfl:=aE _ rfl
      exact⟨_,Z,_,aB,(gt aF aK),f.k Z,m,aG⟩
    ·intro bc
     rcases Ae aI with⟨bd,aI⟩|⟨bd,aI⟩
     ·refine Am (hw:=wo f bd) 4 17 Z f Z λa f=>Am (hw:=wo f bd) 5 17 Z f Z λa f=>Am (hw:=wo f bd) 6 17 Z f Z λa f=>Bd aI λbe bf aI=>A3 (hw:=wo f bd) 7 17 0 m aG T52 bf Z f Z Z λbg a bh f=>Bg (hw:=wo f bd) 8 17 0 aG A7 bh bf Z f Z λbi a bj f=> ?_
      subst bj
      refine Am (hw:=wo f bd) 9 17 Z f Z λa f=>Am (hw:=wo f bd) 10 17 Z f Z λa f=>q_p (hw:=wo f bd) 11 17 Z f (λ_=>AP (f.e Z) (f.e Z) AT) λa f=>Bd aI λbk bl aI=>A3 (hw:=wo f bd) 12 17 0 m aG T52 bl Z f Z Z λbm a bn f=>Bg (hw:=wo f bd) 13 17 0 aG A7 bn bl Z f Z λbo a bp f=> ?_
      subst bp
      refine Bd aI λbq br aI=>Ci (i:=14) 17 Z (by kernel_rfl) Z f (AV f Z Z Z bd) Z Z Z call80 (λ_ _ w bs m=>Wk.a hW m br) λa f=>q_p (hw:=wo f bd) 15 17 Z f (λ_=>AP (f.e Z) (f.e Z) AJ) λa f=>q_p 16 17 Z f (λ_=>AD (f.e Z) bd (f.e Z)) λa f=> ?_
      obtain rfl:=sj aI
      exact bc _ (f.k Z)
     ·refine Ap 4 17 Z f bd λa f=>Ap 5 17 Z f bd λa f=>Ap 6 17 Z f bd λa f=>Ap 7 17 Z f bd λa f=>Ap 8 17 Z f bd λa f=>Ap 9 17 Z f bd λa f=>Ap 10 17 Z f bd λa f=>Ap 11 17 Z f bd λa f=>Ap 12 17 Z f bd λa f=>Ap 13 17 Z f bd λa f=>Ap 14 17 Z f bd λa f=>Ap 15 17 Z f bd λa f=>q_p 16 17 Z f (λ_=>AC (f.e Z) bd (f.e Z)) λa f=> ?_
      obtain rfl:=sj aI
      exact bc _ (f.k Z)
   ·rintro a w ⟨au,rfl,av,aw,bt,f,m,bu⟩
    refine Ak (Ab f Z λa f=>Ah f Z Z Ax λa f=>Ac f Z λa f=>Aa ?_)
    obtain rfl:=sj al
    exact⟨_,Z,_,_,Z,_,aw,(gt an bt),f.k Z,m,bu⟩
  ·refine Ai f Z ap (AB Z ?_)
   obtain rfl:=sj al
   obtain rfl:=am _ rfl
   exact⟨_,Z,_,aj,an,f.weak trivial,m,ao⟩
 ·rintro a w ⟨ac,rfl,ad,ae,bv,f,m,bw⟩
  obtain rfl:=sj hd
  exact⟨[],trivial,f.d,_,[ae],bv,m,_,Z,bw⟩
theorem Wk.V0 {v0:Value}{it0:Itm}{x0:LI}{x1 x2 x3:Int}(hW:BD W)(m:Mem W G w (it0::H))(o0:Ow (RI .u32) 58 G it0 v0 x0){y:(LI)}(hd:D.V0 x0 x1 x2 x3=some y):
  Calls prog 112 #[v0,iv x1,iv x2,iv x3,Fv 80] w (Res W G H (λG' Ho _=>∃i0:Itm,Ho=[i0]∧Ow (RI .u32) 58 G' i0 v0 y)):=by
 refine Aw (args:=[v0,iv x1,iv x2,iv x3,Fv 80]) (N:=82) [] func112 Z Z (lb Z) Z λa f=> ?_
 unfold D.V0 at hd
 refine Af (Ab f Z λa f=>Ac f Z λa f=>Aa (Bd hd λaa ab hd=> ?_))
 refine AH (λa w=>∃q_182':LI,aa= .inl q_182'∧∃ac:LI,ac=q_182'∧∃(ad:GH) (ae:Itm),GLe G ad∧Fr a 82 []∧Mem W ad w (ae::H)∧Ow (RI .u32) 58 ad ae v0 ac) ?_ ?_
 ·refine Al (AE (λaf a w=>∃ag:LI,∃ah:Int,(ag,ah)=af∧∃(ai:GH) (aj:Itm),GLe G ai∧Fr a 82 [(0,v0),(2,iv x2),(3,iv x3),(4,Fv 80),(10,iv ah)]∧Mem W ai w (aj::H)∧Ow (RI .u32) 58 ai aj v0 ag) ab ⟨_,_,Z,_,it0,gr,f.k Z,m,o0⟩ ?_)
  clear ab f m
  rintro af ak al am a w ⟨ag,ah,rfl,ai,aj,an,f,m,ao⟩
  refine Al (Af (Ab f Z λa f=>Ah f Z Z Dw λa f=>Ah f Z Z Ax λa f=>Ac f Z λa f=>Aa (Ag (Af (Ab f Z λa f=>Ab f Z λa f=>Ah f Z Z Ck λa f=>Aa ?_)))))
  rcases Ae al with⟨ap,al⟩|⟨ap,al⟩
  ·refine An f Z ap (AB Z ?_)
   obtain rfl:=sj al
   obtain rfl:=am _ rfl
   exact⟨_,Z,_,Z,_,aj,an,f.weak trivial,m,ao⟩
  ·refine Ai f Z ap (Ao (Ag (Ag (A8 22 AR (by kernel_rfl) m (Am 0 22 Z f Z λa f=>q_p 1 22 Z f (λ_=>AP (f.e Z) (f.e Z) Ax) λa f=>Am 2 22 Z f Z λa f=>q_p 3 22 Z f (λ_=>AP (f.e Z) (f.e Z) AJ) λa f=>Am 4 22 Z f Z λa f=>Bd al λaq ar al=>BQ (fuel':=0) (listed':= #[true,true,true,true,true,true,true,true,true,true,true,true,true,true,true,true,true,true,true,true,true,true]) (λa=>Fr a 82 [(0,v0),(2,iv x2),(3,iv x3),(4,Fv 80),(10,iv ah),(11,(iv (i64.wrap ((i64.wrap (2*ah))+1)))),(18,(.bool (decide (x2≤(i64.wrap ((i64.wrap (2*ah))+1)))))),(19,(iv (i64.wrap ((i64.wrap (2*ah))+1)))),(20,(iv (i64.wrap ((i64.wrap ((i64.wrap (2*ah))+1))+1)))),(21,iv x2),(22,(.bool (decide ((i64.wrap ((i64.wrap ((i64.wrap (2*ah))+1))+1))<x2)))),(23,(.bool (decide ((i64.wrap ((i64.wrap ((i64.wrap (2*ah))+1))+1))<x2)))),(40,(.bool aq))]) ?_ ?_)))))
   ·intro a f
    refine A4 λau w av m=>have ao:=od1 av ao;Aa (Bd al λaw ax al=> ?_)
    refine AH (λa w=>∃ay:Int,ay=aw∧∃(az:GH),GLe au az∧Fr a 82 [(0,v0),(2,iv x2),(3,iv x3),(4,Fv 80),(10,iv ah),(11,iv ay)]∧Mem W az w (aj::H)) ?_ ?_
    ·rcases Ae ax with⟨aA,ax⟩|⟨aA,ax⟩
     ·refine An f Z aA (Ak (Ab f Z λa f=>Ah f Z Z Ax λa f=>Ac f Z λa f=>Aa ?_))
      obtain rfl:=sj ax
      exact⟨_,Z,_,gr,f.k Z,m⟩
     ·refine Ai f Z aA (Ao ?_)
      obtain rfl:=sj ax
      exact⟨_,Z,_,gr,f.k Z,m⟩
    ·rintro a w ⟨ay,rfl,az,aB,f,m⟩
     refine have ao:=od1 aB ao;Ag (Ag (A8 16 AR (by kernel_rfl) m (Am 0 16 Z f Z λa f=>Am 1 16 Z f Z λa f=>Am 2 16 Z f Z λa f=>Am 3 16 Z f Z λa f=>q_p 4 16 Z f (λ_=>AP (f.e Z) (f.e Z) Ax) λa f=>Bd al λaC aD al=>A3 5 16 0 m ao T52 aD Z f Z Z λaE a aF f=>Bg 6 16 0 ao A7 aF aD Z f Z λaG a aH f=> ?_)))
     subst aH
     refine Am 7 16 Z f Z λa f=>Am 8 16 Z f Z λa f=>Am 9 16 Z f Z λa f=>q_p 10 16 Z f (λ_=>AP (f.e Z) (f.e Z) Ax) λa f=>Bd al λaI aJ al=>A3 11 16 0 m ao T52 aJ Z f Z Z λaK a aL f=>Bg 12 16 0 ao A7 aL aJ Z f Z λaM a aN f=> ?_
     subst aN
     refine Bd al λaO aP al=>Ci (i:=13) 16 Z (by kernel_rfl) Z f Z Z Z Z call80 (λ_ _ w aQ m=>Wk.a hW m aP) λa f=>q_p 14 16 Z f (λ_=>AP (f.e Z) (f.e Z) AJ) λa f=>q_p 15 16 Z f (λ_=>Bc (f.e Z)) λa f=>A4 λaR w aS m=>have ao:=od1 aS ao;Aa ?_
     rcases Ae al with⟨aT,al⟩|⟨aT,al⟩
     ·refine An f Z aT (Aq ?_)
      obtain rfl:=sj al
      obtain rfl:=am _ rfl
      obtain rfl:=sj hd
      exact⟨[],trivial,f.d,_,[aj],(gt an (gt av (gt aB aS))),m,_,Z,ao⟩
     ·refine Ai f Z aT (Ao (Ag (B9 AR m (p_p 4 Z f (λ_=>Br (f.e Z)) λa f=>p_p 5 Z f (λ_=>Br (f.e Z)) λa f=>p_p 6 Z f (λ_=>Br (f.e Z)) λa f=>p_p 7 Z f (λ_=>AP (f.e Z) (f.e Z) Ax) λa f=>Ca 240021 17 (by kernel_rfl) Z (Am 0 240021 Z f Z λa f=>Am 1 240021 Z f Z λa f=>Am 2 240021 Z f Z λa f=>q_p 3 240021 Z f (λ_=>AP (f.e Z) (f.e Z) Ax) λa f=>Am 8 240021 Z f Z λa f=>Am 9 240021 Z f Z λa f=>Am 10 240021 Z f Z λa f=>q_p 11 240021 Z f (λ_=>AP (f.e Z) (f.e Z) Ax) λa f=>Bd al λaU aV al=>A3 12 240021 0 m ao T52 aV Z f Z Z λaW a aX f=>Bg 13 240021 0 ao A7 aX aV Z f Z λaY a aZ f=> ?_)))))
      subst aZ
      refine Am 14 240021 Z f Z λa f=>Am 15 240021 Z f Z λa f=>Am 16 240021 Z f Z λa f=>q_p 17 240021 Z f (λ_=>AP (f.e Z) (f.e Z) Ax) λa f=>Bd al λa0 a1 al=>A3 18 240021 0 m ao T52 a1 Z f Z Z λa2 a a3 f=>Bg 19 240021 0 ao A7 a3 a1 Z f Z λa4 a a5 f=> ?_
      subst a5
      refine Bd al λa6 a7 al=>A3 20 240021 0 m ao T52 a7 Z f Z Z λa8 a a9 f=>A4 λba w bb m=>have ao:=od1 bb ao;AW 0 m ao Z sizeOf58 f Z Z a9 a7 Z Z Z λbc w m bd=>Bd al λbe bf al=>Bq 0 m bd Z T52 f Z Z Z bf λbg a bh f=>AW 0 m bd Z sizeOf58 f Z Z bh bf Z Z Z λbi w m bj=>Aa (Ak (Ab f Z λa f=>Ac f Z λa f=>Aa ?_))
      obtain rfl:=sj al
      exact⟨_,Z,_,_,Z,_,bi,(gt an (gt av (gt aB (gt aS bb)))),f.k Z,m,bj⟩
   ·intro bk
    rcases Ae ar with⟨bl,ar⟩|⟨bl,ar⟩
    ·refine Am (hw:=wo f bl) 5 22 Z f Z λa f=>Am (hw:=wo f bl) 6 22 Z f Z λa f=>Am (hw:=wo f bl) 7 22 Z f Z λa f=>Am (hw:=wo f bl) 8 22 Z f Z λa f=>q_p (hw:=wo f bl) 9 22 Z f (λ_=>AP (f.e Z) (f.e Z) Ax) λa f=>Bd ar λbm bn ar=>A3 (hw:=wo f bl) 10 22 0 m ao T52 bn Z f Z Z λbo a bp f=>Bg (hw:=wo f bl) 11 22 0 ao A7 bp bn Z f Z λbq a br f=> ?_
     subst br
     refine Am (hw:=wo f bl) 12 22 Z f Z λa f=>Am (hw:=wo f bl) 13 22 Z f Z λa f=>Am (hw:=wo f bl) 14 22 Z f Z λa f=>q_p (hw:=wo f bl) 15 22 Z f (λ_=>AP (f.e Z) (f.e Z) Ax) λa f=>q_p (hw:=wo f bl) 16 22 Z f (λ_=>AP (f.e Z) (f.e Z) Ax) λa f=>Bd ar λbs bt ar=>A3 (hw:=wo f bl) 17 22 0 m ao T52 bt Z f Z Z λbu a bv f=>Bg (hw:=wo f bl) 18 22 0 ao A7 bv bt Z f Z λbw a bx f=> ?_
     subst bx
     refine Bd ar λbz bA ar=>Ci (i:=19) 22 Z (by kernel_rfl) Z f (AV f Z Z Z bl) Z Z Z call80 (λ_ _ w bB m=>Wk.a hW m bA) λa f=>q_p (hw:=wo f bl) 20 22 Z f (λ_=>AP (f.e Z) (f.e Z) AJ) λa f=>q_p 21 22 Z f (λ_=>AD (f.e Z) bl (f.e Z)) λa f=> ?_
     obtain rfl:=sj ar
     exact bk _ (f.k Z)
    ·refine Ap 5 22 Z f bl λa f=>Ap 6 22 Z f bl λa f=>Ap 7 22 Z f bl λa f=>Ap 8 22 Z f bl λa f=>Ap 9 22 Z f bl λa f=>Ap 10 22 Z f bl λa f=>Ap 11 22 Z f bl λa f=>Ap 12 22 Z f bl λa f=>Ap 13 22 Z f bl λa f=>Ap 14 22 Z f bl λa f=>Ap 15 22 Z f bl λa f=>Ap 16 22 Z f bl λa f=>Ap 17 22 Z f bl λa f=>Ap 18 22 Z f bl λa f=>Ap 19 22 Z f bl λa f=>Ap 20 22 Z f bl λa f=>q_p 21 22 Z f (λ_=>AC (f.e Z) bl (f.e Z)) λa f=> ?_
     obtain rfl:=sj ar
     exact bk _ (f.k Z)
 ·rintro a w ⟨_,rfl,ac,rfl,ad,ae,bC,f,m,bD⟩
  obtain rfl:=sj hd
  exact⟨[],trivial,f.d,_,[ae],bC,m,_,Z,bD⟩
theorem Wk.j1 {v0:Value}{it0:Itm}{x0:LI}{x1 x2:Int}(hW:BD W)(m:Mem W G w (it0::H))(o0:Ow (RI .u32) 58 G it0 v0 x0){y:(LI)}(hd:D.j1 x0 x1 x2=some y):
  Calls prog 100 #[v0,iv x1,iv x2,Fv 80] w (Res W G H (λG' Ho _=>∃i0:Itm,Ho=[i0]∧Ow (RI .u32) 58 G' i0 v0 y)):=by
 refine Aw (args:=[v0,iv x1,iv x2,Fv 80]) (N:=60) [] func100 Z Z (lb Z) Z λa f=> ?_
 unfold D.j1 at hd
 refine Af (Ab f Z λa f=>Ac f Z λa f=>Az (Ac f Z λa f=>Az (Ab f Z λa f=>Ab f Z λa f=>Ah f Z Z AT λa f=>Ac f Z λa f=>Aa (Ag (Af (Ab f Z λa f=>Ah f Z Z AT λa f=>Ah f Z Z (b_quo Z) λa f=>Ac f Z λa f=>Aa (Bd hd λaa ab hd=> ?_)))))))
 refine AH (λa w=>∃ac:LI,ac=aa∧∃(ad:GH) (ae:Itm),GLe G ad∧Fr a 60 [(0,v0),(3,Fv 80),(8,iv x1),(9,iv 0),(10,(iv (i64.wrap (x2-x1))))]∧Mem W ad w (ae::H)∧Ow (RI .u32) 58 ad ae v0 ac) ?_ ?_
 ·refine Al (AE (λaf a w=>∃ag:LI,∃ah:Int,(ag,ah)=af∧∃(ai:GH) (aj:Itm),GLe G ai∧Fr a 60 [(0,v0),(3,Fv 80),(8,iv x1),(9,iv 0),(10,(iv (i64.wrap (x2-x1)))),(11,iv ah)]∧Mem W ai w (aj::H)∧Ow (RI .u32) 58 ai aj v0 ag) ab ⟨_,_,Z,_,it0,gr,f.k Z,m,o0⟩ ?_)
  clear ab f m
  rintro af ak al am a w ⟨ag,ah,rfl,ai,aj,an,f,m,ao⟩
  refine Ag (Af (Ab f Z λa f=>Ah f Z Z Ck λa f=>Aa ?_))
  rcases Ae al with⟨ap,al⟩|⟨ap,al⟩
  ·refine An f Z ap (Ao (Ag (Al (Ak (Ab f Z λa f=>Ab f Z λa f=>Ab f Z λa f=>Ab f Z λa f=>Ab f Z λa f=>Bd al λaq ar al=>AZ f Z call112 (Wk.V0 hW m ao ar) λau av aw w ax m ay a f=> ?_)))))
   obtain⟨az,rfl,aA⟩:=ay
   refine Aa (Ak (Ab f Z λa f=>Ah f Z Z AT λa f=>Ac f Z λa f=>Aa ?_))
   obtain rfl:=sj al
   exact⟨_,Z,_,_,Z,_,az,(gt an ax),f.k Z,m,aA⟩
  ·refine Ai f Z ap (AB Z ?_)
   obtain rfl:=sj al
   obtain rfl:=am _ rfl
   exact⟨_,Z,_,aj,an,f.k Z,m,ao⟩
 ·rintro a w ⟨ac,rfl,ad,ae,aB,f,m,aC⟩
  refine Af (Ab f Z λa f=>Ah f Z Z AT λa f=>Ac f Z λa f=>Aa (Bd hd λaD aE hd=> ?_))
  refine AH (λa w=>∃aF:LI,aF=aD∧∃(aG:GH) (aH:Itm),GLe ad aG∧Fr a 60 []∧Mem W aG w (aH::H)∧Ow (RI .u32) 58 aG aH v0 aF) ?_ ?_
  ·refine Al (AE (λaI a w=>∃aJ:LI,∃aK:Int,(aJ,aK)=aI∧∃(aL:GH) (aM:Itm),GLe ad aL∧Fr a 60 [(0,v0),(3,Fv 80),(8,iv x1),(9,iv 0),(12,iv aK)]∧Mem W aL w (aM::H)∧Ow (RI .u32) 58 aL aM v0 aJ) aE ⟨_,_,Z,_,ae,gr,f.k Z,m,aC⟩ ?_)
   clear aE f m
   rintro aI aN aO aP a w ⟨aJ,aK,rfl,aL,aM,aQ,f,m,aR⟩
   refine Ag (Af (Ab f Z λa f=>Ah f Z Z Ck λa f=>Aa ?_))
   rcases Ae aO with⟨aS,aO⟩|⟨aS,aO⟩
   ·refine An f Z aS (Ao (Ag (Al (Ag (B9 AR m (p_p 2 Z f (λ_=>Br (f.e Z)) λa f=>p_p 3 Z f (λ_=>Br (f.e Z)) λa f=>p_p 4 Z f (λ_=>Br (f.e Z)) λa f=>p_p 5 Z f (λ_=>AP (f.e Z) (f.e Z) Ax) λa f=>Ca 60017 13 (by kernel_rfl) Z (Am 0 60017 Z f Z λa f=>Am 1 60017 Z f Z λa f=>Am 6 60017 Z f Z λa f=>Am 7 60017 Z f Z λa f=>Am 8 60017 Z f Z λa f=>q_p 9 60017 Z f (λ_=>AP (f.e Z) (f.e Z) Ax) λa f=>Bd aO λaT aU aO=>A3 10 60017 0 m aR T52 aU Z f Z Z λaV a aW f=>Bg 11 60017 0 aR A7 aW aU Z f Z λaX a aY f=> ?_)))))))
    subst aY
    refine Am 12 60017 Z f Z λa f=>Am 13 60017 Z f Z λa f=>Bd aO λaZ a0 aO=>A3 14 60017 0 m aR T52 a0 Z f Z Z λa1 a a2 f=>Bg 15 60017 0 aR A7 a2 a0 Z f Z λa3 a a4 f=> ?_
    subst a4
    refine Bd aO λa5 a6 aO=>A3 16 60017 0 m aR T52 a6 Z f Z Z λa7 a a8 f=>A4 λa9 w ba m=>have aR:=od1 ba aR;AW 0 m aR Z sizeOf58 f Z Z a8 a6 Z Z Z λbb w m bc=>Bd aO λbd be aO=>Bq 0 m bc Z T52 f Z Z Z be λbf a bg f=>AW 0 m bc Z sizeOf58 f Z Z bg be Z Z Z λbh w m bi=>Aa (Ak (Ab f Z λa f=>Ab f Z λa f=>Ab f Z λa f=>Ab f Z λa f=>Ab f Z λa f=>Bd aO λbj bk aO=>AZ f Z call112 (Wk.V0 hW m bi bk) λbl bm bn w bo m bp a f=> ?_))
    obtain⟨bq,rfl,br⟩:=bp
    refine Aa (Ak (Ab f Z λa f=>Ah f Z Z AT λa f=>Ac f Z λa f=>Aa ?_))
    obtain rfl:=sj aO
    exact⟨_,Z,_,_,Z,_,bq,(gt aQ (gt ba bo)),f.k Z,m,br⟩
   ·refine Ai f Z aS (AB Z ?_)
    obtain rfl:=sj aO
    obtain rfl:=aP _ rfl
    exact⟨_,Z,_,aM,aQ,f.weak trivial,m,aR⟩
  ·rintro a w ⟨aF,rfl,aG,aH,bs,f,m,bt⟩
   obtain rfl:=sj hd
   exact⟨[],trivial,f.d,_,[aH],(gt aB bs),m,_,Z,bt⟩
theorem Wk.t1 {v0:Value}{it0:Itm}{x0:LI}{x1 x2:Int}(m:Mem W G w (it0::H))(o0:Ow (RI .u32) 58 G it0 v0 x0){y:(LI)}(hd:D.t1 x0 x1 x2=some y):
  Calls prog 101 #[v0,iv x1,iv x2,Fv 80] w (Res W G H (λG' Ho _=>∃i0:Itm,Ho=[i0]∧Ow (RI .u32) 58 G' i0 v0 y)):=by
 refine Aw (args:=[v0,iv x1,iv x2,Fv 80]) (N:=67) [] func101 Z Z (lb Z) Z λa f=> ?_
 unfold D.t1 at hd
 refine Af (Ab f Z λa f=>Ab f Z λa f=>Ah f Z Z AT λa f=>Ac f Z λa f=>Az (Ab f Z λa f=>Ah f Z Z Ck λa f=>Aa ?_))
 rcases Ae hd with⟨aa,hd⟩|⟨aa,hd⟩
 ·refine An f Z aa (Af (Ab f Z λa f=>l_o f (CU (f.e Z) ⟨_,underlying3⟩ underlying124) λa f=>Bj (cs:=[(.int .u64 0)]) zeroValue124 m f Z Z λab w a m f=>AA 0 0 (ds:=[(.int .u64 (IntKind.u64.wrap (i64.wrap (x2-x1))))]) m sizeOf124 f Z Z Z (Ay Z AQ) Z (lb Z) Z λw m=>Az (Ab f Z λa f=>Bd hd λac ad hd=>A1 f Z call113 (Wk.l0 m ad) λae w af m a f=>have o0:=od1 af o0;Ac f Z λa f=>Az (Ab f Z λa f=>Ab f Z λa f=>Ah f Z Z (b_quo Z) λa f=>Ah f Z Z Dw λa f=>Ah f Z Z Ax λa f=>Ah f Z Z AT λa f=>Ac f Z λa f=>Aa (Bd hd λag ah hd=> ?_)))))
  refine AH (λa w=>∃ai:LI,ai=ag∧∃(aj:GH) (ak:Itm),GLe ae aj∧Fr a 67 []∧Mem W aj w (ak::H)∧Ow (RI .u32) 58 aj ak v0 ai) ?_ ?_
  ·refine Al (AE (λal a w=>∃am:LI,∃an:Int,∃ao:Int,(am,an,ao)=al∧∃(ap:GH) (aq:Itm),GLe ae ap∧Fr a 67 [(0,v0),(1,iv x1),(8,(iv (i64.wrap (x2-x1)))),(9,pb ab),(10,(.int .u64 ac)),(11,iv an)]∧Mem W ap w (ib ab 124 [(.int .u64 ao)]::aq::H)∧Ow (RI .u32) 58 ap aq v0 am) ah ⟨_,_,_,Z,_,it0,gr,f.k Z,m,o0⟩ ?_)
   clear ah f m
   rintro al ar au av a w ⟨am,an,ao,rfl,ap,aq,aw,f,m,ax⟩
   refine Ag (Af (Ab f Z λa f=>Ab f Z λa f=>Ab f Z λa f=>Ah f Z Z (b_quo Z) λa f=>Ah f Z Z Dw λa f=>Ah f Z Z Ax λa f=>Ah f Z Z Ax λa f=>Ah f Z Z CA λa f=>Aa ?_))
   rcases Ae au with⟨ay,au⟩|⟨ay,au⟩
   ·refine An f Z ay (Ao (Ag (Al (Af (Bd au λaz aA au=>AZ f Z call114 (Wk.O0 m aA) λaB aC aD w aE m aF a f=> ?_)))))
    obtain⟨rfl,rfl⟩:=aF
    refine have ax:=od1 aE ax;Ab f Z λa f=>Ah f Z Z AT λa f=>Ah f Z Z CY λa f=>l_o f (CU (f.e Z) ⟨_,underlying49⟩ underlying3) λa f=>Ac f Z λa f=>Aa (Ag (Af (Ab f Z λa f=>Ab f Z λa f=>Ah f Z Z Ck λa f=>Aa (Bd au λaG aH au=> ?_))))
    refine AH (λa w=>∃aI:Int,aI=aG∧∃(aJ:GH),GLe aC aJ∧Fr a 67 [(0,v0),(1,iv x1),(8,(iv (i64.wrap (x2-x1)))),(9,pb ab),(10,(.int .u64 ac)),(11,iv an),(12,iv aI)]∧Mem W aJ w (ib ab 124 [(.int .u64 az.2)]::aq::H)) ?_ ?_
    ·rcases Ae aH with⟨aK,aH⟩|⟨aK,aH⟩
     ·refine An f Z aK (Ak (Ab f Z λa f=>Ab f Z λa f=>Ah f Z Z AT λa f=>Ac f Z λa f=>Aa ?_))
      obtain rfl:=sj aH
      exact⟨_,Z,_,gr,f.k Z,m⟩
     ·refine Ai f Z aK (Ao ?_)
      obtain rfl:=sj aH
      exact⟨_,Z,_,gr,f.k Z,m⟩
    ·rintro a w ⟨aI,rfl,aJ,aL,f,m⟩
     refine have ax:=od1 aL ax;B9 AR m (p_p 2 Z f (λ_=>Br (f.e Z)) λa f=>p_p 3 Z f (λ_=>Br (f.e Z)) λa f=>p_p 4 Z f (λ_=>Br (f.e Z)) λa f=>p_p 5 Z f (λ_=>AP (f.e Z) (f.e Z) Ax) λa f=>Ca 60017 13 (by kernel_rfl) Z (Am 0 60017 Z f Z λa f=>Am 1 60017 Z f Z λa f=>Am 6 60017 Z f Z λa f=>Am 7 60017 Z f Z λa f=>Am 8 60017 Z f Z λa f=>q_p 9 60017 Z f (λ_=>AP (f.e Z) (f.e Z) Ax) λa f=>Bd au λaM aN au=>A3 10 60017 1 m ax T52 aN Z f Z Z λaO a aP f=>Bg 11 60017 1 ax A7 aP aN Z f Z λaQ a aR f=> ?_))
     subst aR
     refine Am 12 60017 Z f Z λa f=>Am 13 60017 Z f Z λa f=>Bd au λaS aT au=>A3 14 60017 1 m ax T52 aT Z f Z Z λaU a aV f=>Bg 15 60017 1 ax A7 aV aT Z f Z λaW a aX f=> ?_
     subst aX
     refine Bd au λaY aZ au=>A3 16 60017 1 m ax T52 aZ Z f Z Z λa0 a a1 f=>A4 λa2 w a3 m=>have ax:=od1 a3 ax;AW 1 m ax Z sizeOf58 f Z Z a1 aZ Z Z Z λa4 w m a5=>Bd au λa6 a7 au=>Bq 1 m a5 Z T52 f Z Z Z a7 λa8 a a9 f=>AW 1 m a5 Z sizeOf58 f Z Z a9 a7 Z Z Z λba w m bb=>Aa (Ak (Ab f Z λa f=>Ah f Z Z Ax λa f=>Ac f Z λa f=>Aa ?_))
     obtain rfl:=sj au
     exact⟨_,Z,_,_,_,Z,_,ba,(gt aw (gt aE (gt aL a3))),f.k Z,m,bb⟩
   ·refine Ai f Z ay (AB Z (have m:=m.fr 1;have m:=m.eraseAt 1;?_))
    obtain rfl:=sj au
    obtain rfl:=av _ rfl
    exact⟨_,Z,_,aq,aw,f.weak trivial,m,ax⟩
  ·rintro a w ⟨ai,rfl,aj,ak,bc,f,m,bd⟩
   obtain rfl:=sj hd
   exact⟨[],trivial,f.d,_,[ak],(gt af bc),m,_,Z,bd⟩
 ·refine Ai f Z aa (Ao ?_)
  obtain rfl:=sj hd
  exact⟨[],trivial,f.d,_,[it0],gr,m,_,Z,o0⟩
theorem Wk.V {v0:Value}{it0:Itm}{b3:Nat}{x0:LI}{x1 x2 aa:Int}(hW:BD W)(m:Mem W G w (it0::ib b3 3 [iv aa]::H))(o0:Ow (RI .u32) 58 G it0 v0 x0){y:Int×Int×(LI)×Int}(hd:D.V x0 x1 x2 aa=some y):
  Calls prog 118 #[v0,iv x1,iv x2,pb b3,Fv 80] w (Res W G H (λG' Ho v=>∃i0:Itm,Ho=[i0,ib b3 3 [iv y.2.2.2]]∧v= .tuple #[iv y.1,iv y.2.1]∧Ow (RI .u32) 58 G' i0 v0 y.2.2.1)):=by
 refine Aw (args:=[v0,iv x1,iv x2,pb b3,Fv 80]) (N:=32) [.tmp 10,.tmp 11] func118 Z Z (lb Z) Z λa f=> ?_
 unfold D.V at hd
 refine Af (Ac f Z λa f=>Ac f Z λa f=>Aa (Ag (Ag (A8 11 AR (by kernel_rfl) m (Am 0 11 Z f Z λa f=>Am 1 11 Z f Z λa f=>Am 2 11 Z f Z λa f=>Bd hd λab ac hd=>A3 3 11 0 m o0 T52 ac Z f Z Z λad a ae f=>Bg 4 11 0 o0 A7 ae ac Z f Z λaf a ag f=> ?_)))))
 subst ag
 refine Am 5 11 Z f Z λa f=>Am 6 11 Z f Z λa f=>Bd hd λah ai hd=>A3 7 11 0 m o0 T52 ai Z f Z Z λaj a ak f=>Bg 8 11 0 o0 A7 ak ai Z f Z λal a am f=> ?_
 subst am
 refine Bd hd λan ao hd=>Ci (i:=9) 11 Z (by kernel_rfl) Z f Z Z Z Z call80 (λ_ _ w ap m=>Wk.a hW m ao) λa f=>q_p 10 11 Z f (λ_=>AP (f.e Z) (f.e Z) AJ) λa f=>A4 λaq w ar m=>have o0:=od1 ar o0;Aa ?_
 rcases Ae hd with⟨au,hd⟩|⟨au,hd⟩
 ·refine An f Z au (Af (Ab f Z λa f=>l_o f (Bm (f.e Z)) λa f=>AI 1 0 m Pl3 f Z Z Z Z λa f=>Ah f Z Z Ax λa f=>l_o f (Bm (f.e Z)) λa f=>AA 1 0 (ds:=[(iv (i64.wrap (aa+1)))]) m sizeOf3 f Z Z Z (Ay Z AQ) Z (lb Z) Z λw m=>Az (Ab f Z λa f=>Ab f Z λa f=>Ac f Z λa f=>Ac f Z λa f=>Aa (Aq ?_))))
  obtain rfl:=sj hd
  exact⟨[iv x2,iv x1],⟨f.get _ _ Z,f.get _ _ Z,trivial⟩,f.d,_,[it0,ib b3 3 [(iv (i64.wrap (aa+1)))]],ar,m,_,Z,Z,o0⟩
 ·refine Ai f Z au (Ao (Af (Ab f Z λa f=>Ab f Z λa f=>Ac f Z λa f=>Ac f Z λa f=>Aa (Aq ?_))))
  obtain rfl:=sj hd
  exact⟨[iv x1,iv x2],⟨f.get _ _ Z,f.get _ _ Z,trivial⟩,f.d,_,[it0,ib b3 3 [iv aa]],ar,m,_,Z,Z,o0⟩
theorem Wk.b1 {v0:Value}{it0:Itm}{b4:Nat}{x0:LI}{x1 x2 x3 aa:Int}(hW:BD W)(m:Mem W G w (it0::ib b4 3 [iv aa]::H))(o0:Ow (RI .u32) 58 G it0 v0 x0){y:Int×(LI)×Int}(hd:D.b1 x0 x1 x2 x3 aa=some y):
  Calls prog 116 #[v0,iv x1,iv x2,iv x3,pb b4,Fv 80] w (Res W G H (λG' Ho v=>∃i0:Itm,Ho=[i0,ib b4 3 [iv y.2.2]]∧v=(iv y.1)∧Ow (RI .u32) 58 G' i0 v0 y.2.1)):=by
 refine Aw (args:=[v0,iv x1,iv x2,iv x3,pb b4,Fv 80]) (N:=41) [.tmp 12] func116 Z Z (lb Z) Z λa f=> ?_
 unfold D.b1 at hd
 refine Af (Ac f Z λa f=>Az (Ab f Z λa f=>Ab f Z λa f=>Ab f Z λa f=>Ab f Z λa f=>Ab f Z λa f=>Bd hd λab ac hd=>AZ f Z call118 (Wk.V hW m o0 ac) λad ae af w ag m ah a f=> ?_))
 obtain⟨ai,rfl,rfl,aj⟩:=ah
 refine Ab f Z λa f=>l_o f (A2 (f.e Z) Z) λa f=>l_o f (A2 (f.e Z) Z) λa f=>Ac f Z λa f=>Ac f Z λa f=>Az (Ab f Z λa f=>Ab f Z λa f=>Ab f Z λa f=>Ab f Z λa f=>Ab f Z λa f=>Bd hd λak al hd=>AZ f Z call118 (Wk.V hW m aj al) λam an ao w ap m aq a f=> ?_)
 obtain⟨ar,rfl,rfl,au⟩:=aq
 refine Ab f Z λa f=>l_o f (A2 (f.e Z) Z) λa f=>l_o f (A2 (f.e Z) Z) λa f=>Ac f Z λa f=>Ac f Z λa f=>Az (Ab f Z λa f=>Ab f Z λa f=>Ab f Z λa f=>Ab f Z λa f=>Ab f Z λa f=>Bd hd λav aw hd=>AZ f Z call118 (Wk.V hW m au aw) λax ay az w aA m aB a f=> ?_)
 obtain⟨aC,rfl,rfl,aD⟩:=aB
 refine Ab f Z λa f=>l_o f (A2 (f.e Z) Z) λa f=>l_o f (A2 (f.e Z) Z) λa f=>Ac f Z λa f=>Ac f Z λa f=>Az (Ab f Z λa f=>Ac f Z λa f=>Aa (Aq ?_))
 obtain rfl:=sj hd
 exact⟨[iv av.2.1],f.g Z,f.d,_,[aC,ib b4 3 [iv av.2.2.2]],(gt ag (gt ap aA)),m,_,Z,Z,aD⟩
theorem Wk.a0 {v0:Value}{it0:Itm}{b2:Nat}{x0:LI}{x1 aa:Int}(hW:BD W)(m:Mem W G w (it0::ib b2 3 [iv aa]::H))(o0:Ow (RI .u32) 58 G it0 v0 x0){y:Int×(LI)×Int}(hd:D.a0 x0 x1 aa=some y):
  Calls prog 115 #[v0,iv x1,pb b2,Fv 80] w (Res W G H (λG' Ho v=>∃i0:Itm,Ho=[i0,ib b2 3 [iv y.2.2]]∧v=(iv y.1)∧Ow (RI .u32) 58 G' i0 v0 y.2.1)):=by
 refine Aw (args:=[v0,iv x1,pb b2,Fv 80]) (N:=18) [.tmp 8] func115 Z Z (lb Z) Z λa f=> ?_
 unfold D.a0 at hd
 refine Af (Ac f Z λa f=>Az (Ab f Z λa f=>Ab f Z λa f=>Ah f Z Z AT λa f=>Ab f Z λa f=>Ab f Z λa f=>Ah f Z Z Ax λa f=>Ab f Z λa f=>Ab f Z λa f=>Bd hd λab ac hd=>AZ f Z call116 (Wk.b1 hW m o0 ac) λad ae af w ag m ah a f=> ?_))
 obtain⟨ai,rfl,rfl,aj⟩:=ah
 refine Ac f Z λa f=>Aa (Aq ?_)
 obtain rfl:=sj hd
 exact⟨[iv ab.1],f.g Z,f.d,_,[ai,ib b2 3 [iv ab.2.2]],ag,m,_,Z,Z,aj⟩
theorem Wk.h1 {v0:Value}{it0:Itm}{x0:LI}{x1 x2:Int}(hW:BD W)(m:Mem W G w (it0::H))(o0:Ow (RI .u32) 58 G it0 v0 x0){y:Int×Int×(LI)}(hd:D.h1 x0 x1 x2=some y):
  Calls prog 102 #[v0,iv x1,iv x2,Fv 80] w (Res W G H (λG' Ho v=>∃i0:Itm,Ho=[i0]∧v= .tuple #[iv y.1,iv y.2.1]∧Ow (RI .u32) 58 G' i0 v0 y.2.2)):=by
 refine Aw (args:=[v0,iv x1,iv x2,Fv 80]) (N:=63) [.tmp 8,.tmp 9] func102 Z Z (lb Z) Z λa f=> ?_
 unfold D.h1 at hd
 refine Af (Ac f Z λa f=>Ac f Z λa f=>Az (Ab f Z λa f=>Ab f Z λa f=>Ah f Z Z AT λa f=>Ac f Z λa f=>Az (Bj (cs:=[iv 0]) zeroValue3 m f Z Z λaa w a m f=>Az (Ab f Z λa f=>Ab f Z λa f=>Ah f Z Z (b_quo Z) λa f=>Ah f Z Z Dw λa f=>Ah f Z Z Ax λa f=>Ac f Z λa f=>Az (Ab f Z λa f=>Ab f Z λa f=>Ah f Z Z (b_quo Z) λa f=>Ah f Z Z Dw λa f=>Ah f Z Z Ax λa f=>Ac f Z λa f=>Az (Ab f Z λa f=>Ab f Z λa f=>Ah f Z Z (b_quo Z) λa f=>Ah f Z Z Dw λa f=>Ah f Z Z Ax λa f=>Ac f Z λa f=>Aa (Ag (Af (Ab f Z λa f=>Ah f Z Z Ck λa f=>Aa ?_)))))))))
 rcases Ae hd with⟨ab,hd⟩|⟨ab,hd⟩
 ·refine An f Z ab (Ag (Af (Ab f Z λa f=>Ah f Z Z Ck λa f=>Aa (Bd hd λac ad hd=> ?_))))
  refine AH (λa w=>∃ae:LI,∃af:Int,∃ag:Int,∃ah:Int,∃ai:Int,(ae,af,ag,ah,ai)=ac∧∃(aj:GH) (ak:Itm),GLe G aj∧Fr a 63 [(0,v0),(3,Fv 80),(11,pb aa),(12,iv af),(13,iv ag),(14,iv ah)]∧Mem W aj w (ib aa 3 [iv ai]::ak::H)∧Ow (RI .u32) 58 aj ak v0 ae) ?_ ?_
  ·rcases Ae ad with⟨al,ad⟩|⟨al,ad⟩
   ·refine An f Z al (Af (Ab f Z λa f=>Ab f Z λa f=>Ab f Z λa f=>have m:=m.fr 1;Bd ad λam an ad=>AZ f Z call115 (Wk.a0 hW m o0 an) λao ap aq w ar m au a f=> ?_))
    obtain⟨av,rfl,rfl,aw⟩:=au
    refine Ac f Z λa f=>Az (Ab f Z λa f=>Ab f Z λa f=>Ab f Z λa f=>Bd ad λax ay ad=>AZ f Z call115 (Wk.a0 hW m aw ay) λaz aA aB w aC m aD a f=> ?_)
    obtain⟨aE,rfl,rfl,aF⟩:=aD
    refine Ac f Z λa f=>Aa (Ak (Ab f Z λa f=>Ab f Z λa f=>Ab f Z λa f=>Bd ad λaG aH ad=>AZ f Z call115 (Wk.a0 hW m aF aH) λaI aJ aK w aL m aM a f=> ?_))
    obtain⟨aN,rfl,rfl,aO⟩:=aM
    refine Ac f Z λa f=>Aa (have m:=m.fr 1;?_)
    obtain rfl:=sj ad
    exact⟨_,_,_,_,_,Z,_,aN,(gt ar (gt aC aL)),f.k Z,m,aO⟩
   ·refine Ai f Z al (Ao ?_)
    obtain rfl:=sj ad
    exact⟨_,_,_,_,_,Z,_,it0,gr,f.k Z,m,o0⟩
  ·rintro a w ⟨ae,af,ag,ah,ai,rfl,aj,ak,aP,f,m,aQ⟩
   refine Ak (Ab f Z λa f=>Ab f Z λa f=>Ab f Z λa f=>Ab f Z λa f=>Ab f Z λa f=>have m:=m.fr 1;Bd hd λaR aS hd=>AZ f Z call116 (Wk.b1 hW m aQ aS) λaT aU aV w aW m aX a f=> ?_)
   obtain⟨aY,rfl,rfl,aZ⟩:=aX
   refine Ac f Z λa f=>Az (AI 1 0 m Pl3 f Z Z Z Z λa f=>Aa (Al (Af (Ah f Z Z Bf λa f=>Ac f Z λa f=>Aa ?_))))
   rcases Ae hd with⟨a0,hd⟩|⟨a0,hd⟩
   ·refine An f Z a0 (Af (Ab f Z λa f=>Ac f Z λa f=>Ac f Z λa f=>Aa (Aq (have m:=m.eraseAt 1;?_))))
    obtain rfl:=sj hd
    exact⟨[iv aR.1,iv 1],⟨f.get _ _ Z,f.get _ _ Z,trivial⟩,f.d,_,[aY],(gt aP aW),m,_,Z,Z,aZ⟩
   ·refine Ai f Z a0 (Af (Ah f Z Z Bf λa f=>Ac f Z λa f=>Aa ?_))
    rcases Ae hd with⟨a1,hd⟩|⟨a1,hd⟩
    ·refine An f Z a1 (Af (Ab f Z λa f=>Ac f Z λa f=>Ac f Z λa f=>Aa (Aq (have m:=m.eraseAt 1;?_))))
     obtain rfl:=sj hd
     exact⟨[iv aR.1,iv 2],⟨f.get _ _ Z,f.get _ _ Z,trivial⟩,f.d,_,[aY],(gt aP aW),m,_,Z,Z,aZ⟩
    ·refine Ai f Z a1 (Af (Ab f Z λa f=>Ac f Z λa f=>Ac f Z λa f=>Aa (Aq (have m:=m.eraseAt 1;?_))))
     obtain rfl:=sj hd
     exact⟨[iv aR.1,iv 0],⟨f.get _ _ Z,f.get _ _ Z,trivial⟩,f.d,_,[aY],(gt aP aW),m,_,Z,Z,aZ⟩
 ·refine Ai f Z ab (Ao (Af (AI 0 0 m Pl3 f Z Z Z Z λa f=>Aa (Al (Af (Ah f Z Z Bf λa f=>Ac f Z λa f=>Aa ?_))))))
  rcases Ae hd with⟨a2,hd⟩|⟨a2,hd⟩
  ·refine An f Z a2 (Af (Ab f Z λa f=>Ac f Z λa f=>Ac f Z λa f=>Aa (Aq (have m:=m.fr 1;have m:=m.eraseAt 1;?_))))
   obtain rfl:=sj hd
   exact⟨[(iv (i64.wrap (x1+(i64.wrap ((i64.wrap (Int.tdiv (i64.wrap (x2-x1)) 4))*2))))),iv 1],⟨f.get _ _ Z,f.get _ _ Z,trivial⟩,f.d,_,[it0],gr,m,_,Z,Z,o0⟩
  ·refine Ai f Z a2 (Af (Ah f Z Z Bf λa f=>Ac f Z λa f=>Aa ?_))
   rcases Ae hd with⟨a3,hd⟩|⟨a3,hd⟩
   ·refine An f Z a3 (Af (Ab f Z λa f=>Ac f Z λa f=>Ac f Z λa f=>Aa (Aq (have m:=m.fr 1;have m:=m.eraseAt 1;?_))))
    obtain rfl:=sj hd
    exact⟨[(iv (i64.wrap (x1+(i64.wrap ((i64.wrap (Int.tdiv (i64.wrap (x2-x1)) 4))*2))))),iv 2],⟨f.get _ _ Z,f.get _ _ Z,trivial⟩,f.d,_,[it0],gr,m,_,Z,Z,o0⟩
   ·refine Ai f Z a3 (Af (Ab f Z λa f=>Ac f Z λa f=>Ac f Z λa f=>Aa (Aq (have m:=m.fr 1;have m:=m.eraseAt 1;?_))))
    obtain rfl:=sj hd
    exact⟨[(iv (i64.wrap (x1+(i64.wrap ((i64.wrap (Int.tdiv (i64.wrap (x2-x1)) 4))*2))))),iv 0],⟨f.get _ _ Z,f.get _ _ Z,trivial⟩,f.d,_,[it0],gr,m,_,Z,Z,o0⟩
theorem Wk.u1 {v0:Value}{it0:Itm}{x0:LI}{x1 x2:Int}(m:Mem W G w (it0::H))(o0:Ow (RI .u32) 58 G it0 v0 x0){y:(LI)}(hd:D.u1 x0 x1 x2=some y):
  Calls prog 103 #[v0,iv x1,iv x2,Fv 80] w (Res W G H (λG' Ho _=>∃i0:Itm,Ho=[i0]∧Ow (RI .u32) 58 G' i0 v0 y)):=by
 refine Aw (args:=[v0,iv x1,iv x2,Fv 80]) (N:=34) [] func103 Z Z (lb Z) Z λa f=> ?_
 unfold D.u1 at hd
 refine Af (Ab f Z λa f=>Ac f Z λa f=>Az (Ab f Z λa f=>Ah f Z Z AT λa f=>Ac f Z λa f=>Aa (Bd hd λaa ab hd=> ?_)))
 refine AH (λa w=>∃ac:LI,ac=aa∧∃(ad:GH) (ae:Itm),GLe G ad∧Fr a 34 []∧Mem W ad w (ae::H)∧Ow (RI .u32) 58 ad ae v0 ac) ?_ ?_
 ·refine Al (AE (λaf a w=>∃ag:LI,∃ah:Int,∃ai:Int,(ag,ah,ai)=af∧∃(aj:GH) (ak:Itm),GLe G aj∧Fr a 34 [(0,v0),(8,iv ah),(9,iv ai)]∧Mem W aj w (ak::H)∧Ow (RI .u32) 58 aj ak v0 ag) ab ⟨_,_,_,Z,_,it0,gr,f.k Z,m,o0⟩ ?_)
  clear ab f m
  rintro af al am an a w ⟨ag,ah,ai,rfl,aj,ak,ao,f,m,ap⟩
  refine Ag (Af (Ab f Z λa f=>Ab f Z λa f=>Ah f Z Z AJ λa f=>Aa ?_))
  rcases Ae am with⟨aq,am⟩|⟨aq,am⟩
  ·refine An f Z aq (Ao (Al (Ag (B9 AR m (p_p 2 Z f (λ_=>Br (f.e Z)) λa f=>p_p 3 Z f (λ_=>Br (f.e Z)) λa f=>Ca 12013 11 (by kernel_rfl) Z (Am 0 12013 Z f Z λa f=>Am 1 12013 Z f Z λa f=>Am 4 12013 Z f Z λa f=>Am 5 12013 Z f Z λa f=>Bd am λar au am=>A3 6 12013 0 m ap T52 au Z f Z Z λav a aw f=>Bg 7 12013 0 ap A7 aw au Z f Z λax a ay f=> ?_))))))
   subst ay
   refine Am 8 12013 Z f Z λa f=>Am 9 12013 Z f Z λa f=>Bd am λaz aA am=>A3 10 12013 0 m ap T52 aA Z f Z Z λaB a aC f=>Bg 11 12013 0 ap A7 aC aA Z f Z λaD a aE f=> ?_
   subst aE
   refine Bd am λaF aG am=>A3 12 12013 0 m ap T52 aG Z f Z Z λaH a aI f=>A4 λaJ w aK m=>have ap:=od1 aK ap;AW 0 m ap Z sizeOf58 f Z Z aI aG Z Z Z λaL w m aM=>Bd am λaN aO am=>Bq 0 m aM Z T52 f Z Z Z aO λaP a aQ f=>AW 0 m aM Z sizeOf58 f Z Z aQ aO Z Z Z λaR w m aS=>Az (Ab f Z λa f=>Ah f Z Z Ax λa f=>Ac f Z λa f=>Aa (Ak (Ab f Z λa f=>Ah f Z Z AT λa f=>Ac f Z λa f=>Aa ?_)))
   obtain rfl:=sj am
   exact⟨_,Z,_,_,_,Z,_,aR,(gt ao aK),f.k Z,m,aS⟩
  ·refine Ai f Z aq (AB Z ?_)
   obtain rfl:=sj am
   obtain rfl:=an _ rfl
   exact⟨_,Z,_,ak,ao,f.weak trivial,m,ap⟩
 ·rintro a w ⟨ac,rfl,ad,ae,aT,f,m,aU⟩
  obtain rfl:=sj hd
  exact⟨[],trivial,f.d,_,[ae],aT,m,_,Z,aU⟩
theorem Wk.w1 {v0:Value}{it0:Itm}{x0:LI}{x1 x2:Int}(hW:BD W)(m:Mem W G w (it0::H))(o0:Ow (RI .u32) 58 G it0 v0 x0){y:Bool×(LI)}(hd:D.w1 x0 x1 x2=some y):
  Calls prog 104 #[v0,iv x1,iv x2,Fv 80] w (Res W G H (λG' Ho v=>∃i0:Itm,Ho=[i0]∧v=(.bool y.1)∧Ow (RI .u32) 58 G' i0 v0 y.2)):=by
 refine Aw (args:=[v0,iv x1,iv x2,Fv 80]) (N:=141) [.tmp 8] func104 Z Z (lb Z) Z λa f=> ?_
 unfold D.w1 at hd
 refine Af (Ac f Z λa f=>Az (Ab f Z λa f=>Ah f Z Z Ax λa f=>Ac f Z λa f=>Aa (Ag (Af (Ac f Z λa f=>Aa (Bd hd λaa ab hd=> ?_))))))
 refine AH (λa w=>∃q_1621':LI,aa= .inl q_1621'∧∃ac:LI,ac=q_1621'∧∃(ad:GH) (ae:Itm),GLe G ad∧Fr a 141 []∧Mem W ad w (ae::H)∧Ow (RI .u32) 58 ad ae v0 ac) ?_ ?_
 ·refine Al (AE (λaf a w=>∃ag:LI,∃ah:Int,∃ai:Int,(ag,ah,ai)=af∧∃(aj:GH) (ak:Itm),GLe G aj∧Fr a 141 [(0,v0),(1,iv x1),(2,iv x2),(3,Fv 80),(9,iv ah),(10,iv ai)]∧Mem W aj w (ak::H)∧Ow (RI .u32) 58 aj ak v0 ag) ab ⟨_,_,_,Z,_,it0,gr,f.k Z,m,o0⟩ ?_)
  clear ab f m
  rintro af al am an a w ⟨ag,ah,ai,rfl,aj,ak,ao,f,m,ap⟩
  refine Ag (Af (Ab f Z λa f=>Ah f Z Z AJ λa f=>Aa ?_))
  rcases Ae am with⟨aq,am⟩|⟨aq,am⟩
  ·refine An f Z aq (Ao (Ag (Al (Ag (Bd am λar au am=> ?_)))))
   refine AH (λa w=>∃av:Int,av=ar∧∃(aw:GH),GLe aj aw∧Fr a 141 [(0,v0),(1,iv x1),(2,iv x2),(3,Fv 80),(9,iv av),(10,iv ai)]∧Mem W aw w (ak::H)) ?_ ?_
   ·refine Al (AE (λax a w=>∃ay:Int,ay=ax∧∃(az:GH),GLe aj az∧Fr a 141 [(0,v0),(1,iv x1),(2,iv x2),(3,Fv 80),(9,iv ay),(10,iv ai)]∧Mem W az w (ak::H)) au ⟨_,Z,_,gr,f.k Z,m⟩ ?_)
    clear au f m
    rintro ax aA aB aC a w ⟨ay,rfl,az,aD,f,m⟩
    refine have ap:=od1 aD ap;Ag (Ag (A8 18 AR (by kernel_rfl) m (Am 0 18 Z f Z λa f=>Am 1 18 Z f Z λa f=>q_p 2 18 Z f (λ_=>AP (f.e Z) (f.e Z) AJ) λa f=>Am 3 18 Z f Z λa f=>Bd aB λaE aF aB=>BQ (fuel':=0) (listed':= #[true,true,true,true,true,true,true,true,true,true,true,true,true,true,true,true,true,true]) (λa=>Fr a 141 [(0,v0),(1,iv x1),(2,iv x2),(3,Fv 80),(9,iv ay),(10,iv ai),(19,iv ay),(20,iv x2),(21,(.bool (decide (ay<x2)))),(22,(.bool (decide (ay<x2)))),(36,(.bool aE))]) ?_ ?_)))
    ·intro a f
     refine A4 λaG w aH m=>Aa ?_
     rcases Ae aB with⟨aI,aB⟩|⟨aI,aB⟩
     ·refine An f Z aI (Ao (Al (Ak (Ab f Z λa f=>Ah f Z Z Ax λa f=>Ac f Z λa f=>Aa ?_))))
      obtain rfl:=sj aB
      exact⟨_,Z,_,Z,_,(gt aD aH),f.k Z,m⟩
     ·refine Ai f Z aI (AB Z ?_)
      obtain rfl:=sj aB
      obtain rfl:=aC _ rfl
      exact⟨_,Z,_,(gt aD aH),f.k Z,m⟩
    ·intro aJ
     rcases Ae aF with⟨aK,aF⟩|⟨aK,aF⟩
     ·refine Am (hw:=wo f aK) 4 18 Z f Z λa f=>Am (hw:=wo f aK) 5 18 Z f Z λa f=>Am (hw:=wo f aK) 6 18 Z f Z λa f=>Bd aF λaL aM aF=>A3 (hw:=wo f aK) 7 18 0 m ap T52 aM Z f Z Z λaN a aO f=>Bg (hw:=wo f aK) 8 18 0 ap A7 aO aM Z f Z λaP a aQ f=> ?_
      subst aQ
      refine Am (hw:=wo f aK) 9 18 Z f Z λa f=>Am (hw:=wo f aK) 10 18 Z f Z λa f=>q_p (hw:=wo f aK) 11 18 Z f (λ_=>AP (f.e Z) (f.e Z) AT) λa f=>Bd aF λaR aS aF=>A3 (hw:=wo f aK) 12 18 0 m ap T52 aS Z f Z Z λaT a aU f=>Bg (hw:=wo f aK) 13 18 0 ap A7 aU aS Z f Z λaV a aW f=> ?_
      subst aW
      refine Bd aF λaX aY aF=>Ci (i:=14) 18 Z (by kernel_rfl) Z f (AV f Z Z Z aK) Z Z Z call80 (λ_ _ w aZ m=>Wk.a hW m aY) λa f=>q_p (hw:=wo f aK) 15 18 Z f (λ_=>AP (f.e Z) (f.e Z) AJ) λa f=>q_p (hw:=wo f aK) 16 18 Z f (λ_=>Bc (f.e Z)) λa f=>q_p 17 18 Z f (λ_=>AD (f.e Z) aK (f.e Z)) λa f=> ?_
      obtain rfl:=sj aF
      exact aJ _ (f.k Z)
     ·refine Ap 4 18 Z f aK λa f=>Ap 5 18 Z f aK λa f=>Ap 6 18 Z f aK λa f=>Ap 7 18 Z f aK λa f=>Ap 8 18 Z f aK λa f=>Ap 9 18 Z f aK λa f=>Ap 10 18 Z f aK λa f=>Ap 11 18 Z f aK λa f=>Ap 12 18 Z f aK λa f=>Ap 13 18 Z f aK λa f=>Ap 14 18 Z f aK λa f=>Ap 15 18 Z f aK λa f=>Ap 16 18 Z f aK λa f=>q_p 17 18 Z f (λ_=>AC (f.e Z) aK (f.e Z)) λa f=> ?_
      obtain rfl:=sj aF
      exact aJ _ (f.k Z)
   ·rintro a w ⟨av,rfl,aw,a0,f,m⟩
    refine have ap:=od1 a0 ap;Ag (Af (Ab f Z λa f=>Ab f Z λa f=>Ah f Z Z Bf λa f=>Aa ?_))
    rcases Ae am with⟨a1,am⟩|⟨a1,am⟩
    ·refine An f Z a1 (Af (Ac f Z λa f=>Aa (Aq ?_)))
     obtain rfl:=sj am
     obtain rfl:=an _ rfl
     obtain rfl:=sj hd
     exact⟨[(.bool true)],f.g Z,f.d,_,[ak],(gt ao a0),m,_,Z,Z,ap⟩
    ·refine Ai f Z a1 (Ao (Ag (Af (Ab f Z λa f=>Ab f Z λa f=>Ah f Z Z AT λa f=>Ah f Z Z AJ λa f=>Aa ?_))))
     rcases Ae am with⟨a2,am⟩|⟨a2,am⟩
     ·refine An f Z a2 (Af (Ac f Z λa f=>Aa (Aq ?_)))
      obtain rfl:=sj am
      obtain rfl:=an _ rfl
      obtain rfl:=sj hd
      exact⟨[(.bool false)],f.g Z,f.d,_,[ak],(gt ao a0),m,_,Z,Z,ap⟩
     ·refine Ai f Z a2 (Ao (Ag (B9 AR m (p_p 2 Z f (λ_=>Br (f.e Z)) λa f=>p_p 3 Z f (λ_=>Br (f.e Z)) λa f=>p_p 4 Z f (λ_=>AP (f.e Z) (f.e Z) AT) λa f=>Ca 28015 12 (by kernel_rfl) Z (Am 0 28015 Z f Z λa f=>Am 1 28015 Z f Z λa f=>Am 5 28015 Z f Z λa f=>Am 6 28015 Z f Z λa f=>q_p 7 28015 Z f (λ_=>AP (f.e Z) (f.e Z) AT) λa f=>Bd am λa3 a4 am=>A3 8 28015 0 m ap T52 a4 Z f Z Z λa5 a a6 f=>Bg 9 28015 0 ap A7 a6 a4 Z f Z λa7 a a8 f=> ?_)))))
      subst a8
      refine Am 10 28015 Z f Z λa f=>Am 11 28015 Z f Z λa f=>Bd am λa9 ba am=>A3 12 28015 0 m ap T52 ba Z f Z Z λbb a bc f=>Bg 13 28015 0 ap A7 bc ba Z f Z λbd a be f=> ?_
      subst be
      refine Bd am λbf bg am=>A3 14 28015 0 m ap T52 bg Z f Z Z λbh a bi f=>A4 λbj w bk m=>have ap:=od1 bk ap;AW 0 m ap Z sizeOf58 f Z Z bi bg Z Z Z λbl w m bm=>Bd am λbn bo am=>Bq 0 m bm Z T52 f Z Z Z bo λbp a bq f=>AW 0 m bm Z sizeOf58 f Z Z bq bo Z Z Z λbr w m bs=>Aa (Ag (Af (Ab f Z λa f=>Ab f Z λa f=>Ah f Z Z AT λa f=>Ah f Z Z Ck λa f=>Aa (Bd am λbt bu am=> ?_))))
      refine AH (λa w=>∃bv:LI,bv=bt∧∃(bw:GH) (bx:Itm),GLe bj bw∧Fr a 141 [(0,v0),(1,iv x1),(2,iv x2),(3,Fv 80),(9,iv av),(10,iv ai)]∧Mem W bw w (bx::H)∧Ow (RI .u32) 58 bw bx v0 bv) ?_ ?_
      ·rcases Ae bu with⟨bz,bu⟩|⟨bz,bu⟩
       ·refine An f Z bz (Af (Ab f Z λa f=>Ah f Z Z AT λa f=>Ac f Z λa f=>Aa (Bd bu λbA bB bu=> ?_)))
        refine AH (λa w=>∃bC:LI,bC=bA∧∃(bD:GH) (bE:Itm),GLe bj bD∧Fr a 141 [(0,v0),(1,iv x1),(2,iv x2),(3,Fv 80),(9,iv av),(10,iv ai)]∧Mem W bD w (bE::H)∧Ow (RI .u32) 58 bD bE v0 bC) ?_ ?_
        ·refine Al (AE (λbF a w=>∃bG:LI,∃bH:Int,(bG,bH)=bF∧∃(bI:GH) (bJ:Itm),GLe bj bI∧Fr a 141 [(0,v0),(1,iv x1),(2,iv x2),(3,Fv 80),(9,iv av),(10,iv ai),(11,iv bH)]∧Mem W bI w (bJ::H)∧Ow (RI .u32) 58 bI bJ v0 bG) bB ⟨_,_,Z,_,br,gr,f.k Z,m,bs⟩ ?_)
         clear bB f m
         rintro bF bK bL bM a w ⟨bG,bH,rfl,bI,bJ,bN,f,m,bO⟩
         refine Ag (Af (Ab f Z λa f=>Ah f Z Z Ck λa f=>Aa ?_))
         rcases Ae bL with⟨bP,bL⟩|⟨bP,bL⟩
         ·refine An f Z bP (Ao (Ag (Al (Ag (Ag (A8 13 AR (by kernel_rfl) m (Am 0 13 Z f Z λa f=>Am 1 13 Z f Z λa f=>Am 2 13 Z f Z λa f=>Bd bL λbQ bR bL=>A3 3 13 0 m bO T52 bR Z f Z Z λbS a bT f=>Bg 4 13 0 bO A7 bT bR Z f Z λbU a bV f=> ?_)))))))
          subst bV
          refine Am 5 13 Z f Z λa f=>Am 6 13 Z f Z λa f=>q_p 7 13 Z f (λ_=>AP (f.e Z) (f.e Z) AT) λa f=>Bd bL λbW bX bL=>A3 8 13 0 m bO T52 bX Z f Z Z λbY a bZ f=>Bg 9 13 0 bO A7 bZ bX Z f Z λb0 a b1 f=> ?_
          subst b1
          refine Bd bL λb2 b3 bL=>Ci (i:=10) 13 Z (by kernel_rfl) Z f Z Z Z Z call80 (λ_ _ w b4 m=>Wk.a hW m b3) λa f=>q_p 11 13 Z f (λ_=>AP (f.e Z) (f.e Z) AJ) λa f=>q_p 12 13 Z f (λ_=>Bc (f.e Z)) λa f=>A4 λb5 w b6 m=>have bO:=od1 b6 bO;Aa ?_
          rcases Ae bL with⟨b7,bL⟩|⟨b7,bL⟩
          ·refine An f Z b7 (AB Z ?_)
           obtain rfl:=sj bL
           obtain rfl:=bM _ rfl
           exact⟨_,Z,_,bJ,(gt bN b6),f.k Z,m,bO⟩
          ·refine Ai f Z b7 (Ao (B9 AR m (p_p 2 Z f (λ_=>Br (f.e Z)) λa f=>p_p 3 Z f (λ_=>Br (f.e Z)) λa f=>p_p 4 Z f (λ_=>AP (f.e Z) (f.e Z) AT) λa f=>Ca 28015 12 (by kernel_rfl) Z (Am 0 28015 Z f Z λa f=>Am 1 28015 Z f Z λa f=>Am 5 28015 Z f Z λa f=>Am 6 28015 Z f Z λa f=>q_p 7 28015 Z f (λ_=>AP (f.e Z) (f.e Z) AT) λa f=>Bd bL λb8 b9 bL=>A3 8 28015 0 m bO T52 b9 Z f Z Z λca a cb f=>Bg 9 28015 0 bO A7 cb b9 Z f Z λcc a cd f=> ?_))))
           subst cd
           refine Am 10 28015 Z f Z λa f=>Am 11 28015 Z f Z λa f=>Bd bL λce cf bL=>A3 12 28015 0 m bO T52 cf Z f Z Z λcg a ch f=>Bg 13 28015 0 bO A7 ch cf Z f Z λci a cj f=> ?_
           subst cj
           refine Bd bL λck cl bL=>A3 14 28015 0 m bO T52 cl Z f Z Z λcm a cn f=>A4 λco w cp m=>have bO:=od1 cp bO;AW 0 m bO Z sizeOf58 f Z Z cn cl Z Z Z λcq w m cr=>Bd bL λcs ct bL=>Bq 0 m cr Z T52 f Z Z Z ct λcu a cv f=>AW 0 m cr Z sizeOf58 f Z Z cv ct Z Z Z λcw w m cx=>Aa (Ak (Ab f Z λa f=>Ah f Z Z AT λa f=>Ac f Z λa f=>Aa ?_))
           obtain rfl:=sj bL
           exact⟨_,Z,_,_,Z,_,cw,(gt bN (gt b6 cp)),f.k Z,m,cx⟩
         ·refine Ai f Z bP (AB Z ?_)
          obtain rfl:=sj bL
          obtain rfl:=bM _ rfl
          exact⟨_,Z,_,bJ,bN,f.k Z,m,bO⟩
        ·rintro a w ⟨bC,rfl,bD,bE,cy,f,m,cz⟩
         obtain rfl:=sj bu
         exact⟨_,Z,_,bE,cy,f.k Z,m,cz⟩
       ·refine Ai f Z bz (Ao ?_)
        obtain rfl:=sj bu
        exact⟨_,Z,_,br,gr,f.k Z,m,bs⟩
      ·rintro a w ⟨bv,rfl,bw,bx,cA,f,m,cB⟩
       refine Af (Ab f Z λa f=>Ab f Z λa f=>Ah f Z Z AT λa f=>Ah f Z Z Ck λa f=>Aa ?_)
       rcases Ae am with⟨cC,am⟩|⟨cC,am⟩
       ·refine An f Z cC (Af (Ab f Z λa f=>Ah f Z Z Ax λa f=>Ac f Z λa f=>Aa (Bd am λcD cE am=> ?_)))
        refine AH (λa w=>∃cF:LI,cF=cD∧∃(cG:GH) (cH:Itm),GLe bw cG∧Fr a 141 [(0,v0),(1,iv x1),(2,iv x2),(3,Fv 80),(9,iv av),(10,iv ai)]∧Mem W cG w (cH::H)∧Ow (RI .u32) 58 cG cH v0 cF) ?_ ?_
        ·refine Al (AE (λcI a w=>∃cJ:LI,∃cK:Int,(cJ,cK)=cI∧∃(cL:GH) (cM:Itm),GLe bw cL∧Fr a 141 [(0,v0),(1,iv x1),(2,iv x2),(3,Fv 80),(9,iv av),(10,iv ai),(12,iv cK)]∧Mem W cL w (cM::H)∧Ow (RI .u32) 58 cL cM v0 cJ) cE ⟨_,_,Z,_,bx,gr,f.k Z,m,cB⟩ ?_)
         clear cE f m
         rintro cI cN cO cP a w ⟨cJ,cK,rfl,cL,cM,cQ,f,m,cR⟩
         refine Ag (Af (Ab f Z λa f=>Ab f Z λa f=>Ah f Z Z AJ λa f=>Aa ?_))
         rcases Ae cO with⟨cS,cO⟩|⟨cS,cO⟩
         ·refine An f Z cS (Ao (Ag (Al (Ag (Ag (A8 13 AR (by kernel_rfl) m (Am 0 13 Z f Z λa f=>Am 1 13 Z f Z λa f=>Am 2 13 Z f Z λa f=>Bd cO λcT cU cO=>A3 3 13 0 m cR T52 cU Z f Z Z λcV a cW f=>Bg 4 13 0 cR A7 cW cU Z f Z λcX a cY f=> ?_)))))))
          subst cY
          refine Am 5 13 Z f Z λa f=>Am 6 13 Z f Z λa f=>q_p 7 13 Z f (λ_=>AP (f.e Z) (f.e Z) AT) λa f=>Bd cO λcZ c0 cO=>A3 8 13 0 m cR T52 c0 Z f Z Z λc1 a c2 f=>Bg 9 13 0 cR A7 c2 c0 Z f Z λc3 a c4 f=> ?_
          subst c4
          refine Bd cO λc5 c6 cO=>Ci (i:=10) 13 Z (by kernel_rfl) Z f Z Z Z Z call80 (λ_ _ w c7 m=>Wk.a hW m c6) λa f=>q_p 11 13 Z f (λ_=>AP (f.e Z) (f.e Z) AJ) λa f=>q_p 12 13 Z f (λ_=>Bc (f.e Z)) λa f=>A4 λc8 w c9 m=>have cR:=od1 c9 cR;Aa ?_
          rcases Ae cO with⟨da,cO⟩|⟨da,cO⟩
          ·refine An f Z da (AB Z ?_)
           obtain rfl:=sj cO
           obtain rfl:=cP _ rfl
           exact⟨_,Z,_,cM,(gt cQ c9),f.k Z,m,cR⟩
          ·refine Ai f Z da (Ao (B9 AR m (p_p 2 Z f (λ_=>Br (f.e Z)) λa f=>p_p 3 Z f (λ_=>Br (f.e Z)) λa f=>p_p 4 Z f (λ_=>AP (f.e Z) (f.e Z) AT) λa f=>Ca 28015 12 (by kernel_rfl) Z (Am 0 28015 Z f Z λa f=>Am 1 28015 Z f Z λa f=>Am 5 28015 Z f Z λa f=>Am 6 28015 Z f Z λa f=>q_p 7 28015 Z f (λ_=>AP (f.e Z) (f.e Z) AT) λa f=>Bd cO λdb dc cO=>A3 8 28015 0 m cR T52 dc Z f Z Z λdd a de f=>Bg 9 28015 0 cR A7 de dc Z f Z λdf a dg f=> ?_))))
           subst dg
           refine Am 10 28015 Z f Z λa f=>Am 11 28015 Z f Z λa f=>Bd cO λdh di cO=>A3 12 28015 0 m cR T52 di Z f Z Z λdj a dk f=>Bg 13 28015 0 cR A7 dk di Z f Z λdl a dm f=> ?_
           subst dm
           refine Bd cO λdn dp cO=>A3 14 28015 0 m cR T52 dp Z f Z Z λdq a dr f=>A4 λds w dt m=>have cR:=od1 dt cR;AW 0 m cR Z sizeOf58 f Z Z dr dp Z Z Z λdu w m dv=>Bd cO λdw dx cO=>Bq 0 m dv Z T52 f Z Z Z dx λdy a dz f=>AW 0 m dv Z sizeOf58 f Z Z dz dx Z Z Z λdA w m dB=>Aa (Ak (Ab f Z λa f=>Ah f Z Z Ax λa f=>Ac f Z λa f=>Aa ?_))
           obtain rfl:=sj cO
           exact⟨_,Z,_,_,Z,_,dA,(gt cQ (gt c9 dt)),f.k Z,m,dB⟩
         ·refine Ai f Z cS (AB Z ?_)
          obtain rfl:=sj cO
          obtain rfl:=cP _ rfl
          exact⟨_,Z,_,cM,cQ,f.k Z,m,cR⟩
        ·rintro a w ⟨cF,rfl,cG,cH,dC,f,m,dD⟩
         refine Ak (Ab f Z λa f=>Ah f Z Z Ax λa f=>Ac f Z λa f=>Aa ?_)
         obtain rfl:=sj am
         exact⟨_,Z,_,_,_,Z,_,cH,(gt ao (gt a0 (gt bk (gt cA dC)))),f.k Z,m,dD⟩
       ·refine Ai f Z cC (Ao (Ak (Ab f Z λa f=>Ah f Z Z Ax λa f=>Ac f Z λa f=>Aa ?_)))
        obtain rfl:=sj am
        exact⟨_,Z,_,_,_,Z,_,bx,(gt ao (gt a0 (gt bk cA))),f.k Z,m,cB⟩
  ·refine Ai f Z aq (AB Z ?_)
   obtain rfl:=sj am
   obtain rfl:=an _ rfl
   exact⟨_,Z,_,Z,_,ak,ao,f.weak trivial,m,ap⟩
 ·rintro a w ⟨_,rfl,ac,rfl,ad,ae,dE,f,m,dF⟩
  refine Af (Ac f Z λa f=>Aa (Aq ?_))
  obtain rfl:=sj hd
  exact⟨[(.bool false)],f.g Z,f.d,_,[ae],dE,m,_,Z,Z,dF⟩
theorem Wk.m1 {v0:Value}{it0:Itm}{x0:LI}{x1 x2 x3:Int}(hW:BD W)(m:Mem W G w (it0::H))(o0:Ow (RI .u32) 58 G it0 v0 x0){y:Int×(LI)}(hd:D.m1 x0 x1 x2 x3=some y):
  Calls prog 105 #[v0,iv x1,iv x2,iv x3,Fv 80] w (Res W G H (λG' Ho v=>∃i0:Itm,Ho=[i0]∧v=(iv y.1)∧Ow (RI .u32) 58 G' i0 v0 y.2)):=by
 refine Aw (args:=[v0,iv x1,iv x2,iv x3,Fv 80]) (N:=90) [.tmp 10] func105 Z Z (lb Z) Z λa f=> ?_
 unfold D.m1 at hd
 refine Af (Ac f Z λa f=>Aa (Ag (B9 AR m (p_p 2 Z f (λ_=>Br (f.e Z)) λa f=>p_p 3 Z f (λ_=>Br (f.e Z)) λa f=>Ca 12013 11 (by kernel_rfl) Z (Am 0 12013 Z f Z λa f=>Am 1 12013 Z f Z λa f=>Am 4 12013 Z f Z λa f=>Am 5 12013 Z f Z λa f=>Bd hd λaa ab hd=>A3 6 12013 0 m o0 T52 ab Z f Z Z λac a ad f=>Bg 7 12013 0 o0 A7 ad ab Z f Z λae a af f=> ?_)))))
 subst af
 refine Am 8 12013 Z f Z λa f=>Am 9 12013 Z f Z λa f=>Bd hd λag ah hd=>A3 10 12013 0 m o0 T52 ah Z f Z Z λai a aj f=>Bg 11 12013 0 o0 A7 aj ah Z f Z λak a al f=> ?_
 subst al
 refine Bd hd λam an hd=>A3 12 12013 0 m o0 T52 an Z f Z Z λao a ap f=>A4 λaq w ar m=>have o0:=od1 ar o0;AW 0 m o0 Z sizeOf58 f Z Z ap an Z Z Z λau w m av=>Bd hd λaw ax hd=>Bq 0 m av Z T52 f Z Z Z ax λay a az f=>AW 0 m av Z sizeOf58 f Z Z az ax Z Z Z λaA w m aB=>Az (Ab f Z λa f=>Ah f Z Z Ax λa f=>Ab f Z λa f=>Ah f Z Z AT λa f=>Ac f Z λa f=>Ac f Z λa f=>Aa (Ag (Bd hd λaC aD hd=> ?_)))
 refine AH (λa w=>∃aE:LI,∃aF:Int,(aE,aF)=aC∧∃(aG:GH) (aH:Itm),GLe aq aG∧Fr a 90 [(11,iv aF)]∧Mem W aG w (aH::H)∧Ow (RI .u32) 58 aG aH v0 aE) ?_ ?_
 ·refine Al (AE (λaI a w=>∃aJ:LI,∃aK:Int,∃aL:Int,(aJ,aK,aL)=aI∧∃(aM:GH) (aN:Itm),GLe aq aM∧Fr a 90 [(0,v0),(1,iv x1),(4,Fv 80),(11,iv aK),(12,iv aL)]∧Mem W aM w (aN::H)∧Ow (RI .u32) 58 aM aN v0 aJ) aD ⟨_,_,_,Z,_,aA,gr,f.k Z,m,aB⟩ ?_)
  clear aD f m
  rintro aI aO aP aQ a w ⟨aJ,aK,aL,rfl,aM,aN,aR,f,m,aS⟩
  refine Al (Ag (Bd aP λaT aU aP=> ?_))
  refine AH (λa w=>∃aV:Int,aV=aT∧∃(aW:GH),GLe aM aW∧Fr a 90 [(0,v0),(1,iv x1),(4,Fv 80),(11,iv aV),(12,iv aL)]∧Mem W aW w (aN::H)) ?_ ?_
  ·refine Al (AE (λaX a w=>∃aY:Int,aY=aX∧∃(aZ:GH),GLe aM aZ∧Fr a 90 [(0,v0),(1,iv x1),(4,Fv 80),(11,iv aY),(12,iv aL)]∧Mem W aZ w (aN::H)) aU ⟨_,Z,_,gr,f.k Z,m⟩ ?_)
   clear aU f m
   rintro aX a0 a1 a2 a w ⟨aY,rfl,aZ,a3,f,m⟩
   refine have aS:=od1 a3 aS;Ag (Ag (A8 17 AR (by kernel_rfl) m (Am 0 17 Z f Z λa f=>Am 1 17 Z f Z λa f=>q_p 2 17 Z f (λ_=>AP (f.e Z) (f.e Z) CA) λa f=>Am 3 17 Z f Z λa f=>Bd a1 λa4 a5 a1=>BQ (fuel':=0) (listed':= #[true,true,true,true,true,true,true,true,true,true,true,true,true,true,true,true,true]) (λa=>Fr a 90 [(0,v0),(1,iv x1),(4,Fv 80),(11,iv aY),(12,iv aL),(31,iv aY),(32,iv aL),(33,(.bool (decide (aY≤aL)))),(34,(.bool (decide (aY≤aL)))),(47,(.bool a4))]) ?_ ?_)))
   ·intro a f
    refine A4 λa6 w a7 m=>Aa ?_
    rcases Ae a1 with⟨a8,a1⟩|⟨a8,a1⟩
    ·refine An f Z a8 (Ao (Al (Ak (Ab f Z λa f=>Ah f Z Z Ax λa f=>Ac f Z λa f=>Aa ?_))))
     obtain rfl:=sj a1
     exact⟨_,Z,_,Z,_,(gt a3 a7),f.k Z,m⟩
    ·refine Ai f Z a8 (AB Z ?_)
     obtain rfl:=sj a1
     obtain rfl:=a2 _ rfl
     exact⟨_,Z,_,(gt a3 a7),f.k Z,m⟩
   ·intro a9
    rcases Ae a5 with⟨ba,a5⟩|⟨ba,a5⟩
    ·refine Am (hw:=wo f ba) 4 17 Z f Z λa f=>Am (hw:=wo f ba) 5 17 Z f Z λa f=>Am (hw:=wo f ba) 6 17 Z f Z λa f=>Bd a5 λbb bc a5=>A3 (hw:=wo f ba) 7 17 0 m aS T52 bc Z f Z Z λbd a be f=>Bg (hw:=wo f ba) 8 17 0 aS A7 be bc Z f Z λbf a bg f=> ?_
     subst bg
     refine Am (hw:=wo f ba) 9 17 Z f Z λa f=>Am (hw:=wo f ba) 10 17 Z f Z λa f=>Bd a5 λbh bi a5=>A3 (hw:=wo f ba) 11 17 0 m aS T52 bi Z f Z Z λbj a bk f=>Bg (hw:=wo f ba) 12 17 0 aS A7 bk bi Z f Z λbl a bm f=> ?_
     subst bm
     refine Bd a5 λbn bo a5=>Ci (i:=13) 17 Z (by kernel_rfl) Z f (AV f Z Z Z ba) Z Z Z call80 (λ_ _ w bp m=>Wk.a hW m bo) λa f=>q_p (hw:=wo f ba) 14 17 Z f (λ_=>AP (f.e Z) (f.e Z) AJ) λa f=>q_p (hw:=wo f ba) 15 17 Z f (λ_=>Bc (f.e Z)) λa f=>q_p 16 17 Z f (λ_=>AD (f.e Z) ba (f.e Z)) λa f=> ?_
     obtain rfl:=sj a5
     exact a9 _ (f.k Z)
    ·refine Ap 4 17 Z f ba λa f=>Ap 5 17 Z f ba λa f=>Ap 6 17 Z f ba λa f=>Ap 7 17 Z f ba λa f=>Ap 8 17 Z f ba λa f=>Ap 9 17 Z f ba λa f=>Ap 10 17 Z f ba λa f=>Ap 11 17 Z f ba λa f=>Ap 12 17 Z f ba λa f=>Ap 13 17 Z f ba λa f=>Ap 14 17 Z f ba λa f=>Ap 15 17 Z f ba λa f=>q_p 16 17 Z f (λ_=>AC (f.e Z) ba (f.e Z)) λa f=> ?_
     obtain rfl:=sj a5
     exact a9 _ (f.k Z)
  ·rintro a w ⟨aV,rfl,aW,bq,f,m⟩
   refine have aS:=od1 bq aS;Ag (Bd aP λbr bs aP=> ?_)
   refine AH (λa w=>∃bt:Int,bt=br∧∃(bu:GH),GLe aW bu∧Fr a 90 [(0,v0),(1,iv x1),(4,Fv 80),(11,iv aV),(12,iv bt)]∧Mem W bu w (aN::H)) ?_ ?_
   ·refine Al (AE (λbv a w=>∃bw:Int,bw=bv∧∃(bx:GH),GLe aW bx∧Fr a 90 [(0,v0),(1,iv x1),(4,Fv 80),(11,iv aV),(12,iv bw)]∧Mem W bx w (aN::H)) bs ⟨_,Z,_,gr,f.k Z,m⟩ ?_)
    clear bs f m
    rintro bv bz bA bB a w ⟨bw,rfl,bx,bC,f,m⟩
    refine have aS:=od1 bC aS;Ag (Ag (A8 16 AR (by kernel_rfl) m (Am 0 16 Z f Z λa f=>Am 1 16 Z f Z λa f=>q_p 2 16 Z f (λ_=>AP (f.e Z) (f.e Z) CA) λa f=>Am 3 16 Z f Z λa f=>Bd bA λbD bE bA=>BQ (fuel':=0) (listed':= #[true,true,true,true,true,true,true,true,true,true,true,true,true,true,true,true]) (λa=>Fr a 90 [(0,v0),(1,iv x1),(4,Fv 80),(11,iv aV),(12,iv bw),(50,iv aV),(51,iv bw),(52,(.bool (decide (aV≤bw)))),(53,(.bool (decide (aV≤bw)))),(65,(.bool bD))]) ?_ ?_)))
    ·intro a f
     refine A4 λbF w bG m=>Aa ?_
     rcases Ae bA with⟨bH,bA⟩|⟨bH,bA⟩
     ·refine An f Z bH (Ao (Al (Ak (Ab f Z λa f=>Ah f Z Z AT λa f=>Ac f Z λa f=>Aa ?_))))
      obtain rfl:=sj bA
      exact⟨_,Z,_,Z,_,(gt bC bG),f.k Z,m⟩
     ·refine Ai f Z bH (AB Z ?_)
      obtain rfl:=sj bA
      obtain rfl:=bB _ rfl
      exact⟨_,Z,_,(gt bC bG),f.k Z,m⟩
    ·intro bI
     rcases Ae bE with⟨bJ,bE⟩|⟨bJ,bE⟩
     ·refine Am (hw:=wo f bJ) 4 16 Z f Z λa f=>Am (hw:=wo f bJ) 5 16 Z f Z λa f=>Am (hw:=wo f bJ) 6 16 Z f Z λa f=>Bd bE λbK bL bE=>A3 (hw:=wo f bJ) 7 16 0 m aS T52 bL Z f Z Z λbM a bN f=>Bg (hw:=wo f bJ) 8 16 0 aS A7 bN bL Z f Z λbO a bP f=> ?_
      subst bP
      refine Am (hw:=wo f bJ) 9 16 Z f Z λa f=>Am (hw:=wo f bJ) 10 16 Z f Z λa f=>Bd bE λbQ bR bE=>A3 (hw:=wo f bJ) 11 16 0 m aS T52 bR Z f Z Z λbS a bT f=>Bg (hw:=wo f bJ) 12 16 0 aS A7 bT bR Z f Z λbU a bV f=> ?_
      subst bV
      refine Bd bE λbW bX bE=>Ci (i:=13) 16 Z (by kernel_rfl) Z f (AV f Z Z Z bJ) Z Z Z call80 (λ_ _ w bY m=>Wk.a hW m bX) λa f=>q_p (hw:=wo f bJ) 14 16 Z f (λ_=>AP (f.e Z) (f.e Z) AJ) λa f=>q_p 15 16 Z f (λ_=>AD (f.e Z) bJ (f.e Z)) λa f=> ?_
      obtain rfl:=sj bE
      exact bI _ (f.k Z)
     ·refine Ap 4 16 Z f bJ λa f=>Ap 5 16 Z f bJ λa f=>Ap 6 16 Z f bJ λa f=>Ap 7 16 Z f bJ λa f=>Ap 8 16 Z f bJ λa f=>Ap 9 16 Z f bJ λa f=>Ap 10 16 Z f bJ λa f=>Ap 11 16 Z f bJ λa f=>Ap 12 16 Z f bJ λa f=>Ap 13 16 Z f bJ λa f=>Ap 14 16 Z f bJ λa f=>q_p 15 16 Z f (λ_=>AC (f.e Z) bJ (f.e Z)) λa f=> ?_
      obtain rfl:=sj bE
      exact bI _ (f.k Z)
   ·rintro a w ⟨bt,rfl,bu,bZ,f,m⟩
    refine have aS:=od1 bZ aS;Ag (Af (Ab f Z λa f=>Ab f Z λa f=>Ah f Z Z BX λa f=>Aa ?_))
    rcases Ae aP with⟨b0,aP⟩|⟨b0,aP⟩
    ·refine An f Z b0 (AB Z ?_)
     obtain rfl:=sj aP
     obtain rfl:=aQ _ rfl
     exact⟨_,_,Z,_,aN,(gt aR (gt bq bZ)),f.k Z,m,aS⟩
    ·refine Ai f Z b0 (Ao (Ag (B9 AR m (p_p 2 Z f (λ_=>Br (f.e Z)) λa f=>p_p 3 Z f (λ_=>Br (f.e Z)) λa f=>Ca 12013 11 (by kernel_rfl) Z (Am 0 12013 Z f Z λa f=>Am 1 12013 Z f Z λa f=>Am 4 12013 Z f Z λa f=>Am 5 12013 Z f Z λa f=>Bd aP λb1 b2 aP=>A3 6 12013 0 m aS T52 b2 Z f Z Z λb3 a b4 f=>Bg 7 12013 0 aS A7 b4 b2 Z f Z λb5 a b6 f=> ?_)))))
     subst b6
     refine Am 8 12013 Z f Z λa f=>Am 9 12013 Z f Z λa f=>Bd aP λb7 b8 aP=>A3 10 12013 0 m aS T52 b8 Z f Z Z λb9 a ca f=>Bg 11 12013 0 aS A7 ca b8 Z f Z λcb a cc f=> ?_
     subst cc
     refine Bd aP λcd ce aP=>A3 12 12013 0 m aS T52 ce Z f Z Z λcf a cg f=>A4 λch w ci m=>have aS:=od1 ci aS;AW 0 m aS Z sizeOf58 f Z Z cg ce Z Z Z λcj w m ck=>Bd aP λcl cm aP=>Bq 0 m ck Z T52 f Z Z Z cm λcn a co f=>AW 0 m ck Z sizeOf58 f Z Z co cm Z Z Z λcp w m cq=>Az (Ab f Z λa f=>Ah f Z Z Ax λa f=>Ac f Z λa f=>Aa (Ak (Ab f Z λa f=>Ah f Z Z AT λa f=>Ac f Z λa f=>Aa ?_)))
     obtain rfl:=sj aP
     exact⟨_,Z,_,_,_,Z,_,cp,(gt aR (gt bq (gt bZ ci))),f.k Z,m,cq⟩
 ·rintro a w ⟨aE,aF,rfl,aG,aH,cr,f,m,cs⟩
  refine Af (Ab f Z λa f=>Ac f Z λa f=>Aa (Aq ?_))
  obtain rfl:=sj hd
  exact⟨[iv aF],f.g Z,f.d,_,[aH],(gt ar cr),m,_,Z,Z,cs⟩
theorem Wk.p1 {v0:Value}{it0:Itm}{x0:LI}{x1 x2 x3:Int}(hW:BD W)(m:Mem W G w (it0::H))(o0:Ow (RI .u32) 58 G it0 v0 x0){y:Int×Bool×(LI)}(hd:D.p1 x0 x1 x2 x3=some y):
  Calls prog 106 #[v0,iv x1,iv x2,iv x3,Fv 80] w (Res W G H (λG' Ho v=>∃i0:Itm,Ho=[i0]∧v= .tuple #[iv y.1,(.bool y.2.1)]∧Ow (RI .u32) 58 G' i0 v0 y.2.2)):=by
 refine Aw (args:=[v0,iv x1,iv x2,iv x3,Fv 80]) (N:=178) [.tmp 10,.tmp 11] func106 Z Z (lb Z) Z λa f=> ?_
 unfold D.p1 at hd
 refine Af (Ac f Z λa f=>Ac f Z λa f=>Aa (Ag (B9 AR m (p_p 2 Z f (λ_=>Br (f.e Z)) λa f=>p_p 3 Z f (λ_=>Br (f.e Z)) λa f=>Ca 12013 11 (by kernel_rfl) Z (Am 0 12013 Z f Z λa f=>Am 1 12013 Z f Z λa f=>Am 4 12013 Z f Z λa f=>Am 5 12013 Z f Z λa f=>Bd hd λaa ab hd=>A3 6 12013 0 m o0 T52 ab Z f Z Z λac a ad f=>Bg 7 12013 0 o0 A7 ad ab Z f Z λae a af f=> ?_)))))
 subst af
 refine Am 8 12013 Z f Z λa f=>Am 9 12013 Z f Z λa f=>Bd hd λag ah hd=>A3 10 12013 0 m o0 T52 ah Z f Z Z λai a aj f=>Bg 11 12013 0 o0 A7 aj ah Z f Z λak a al f=> ?_
 subst al
 refine Bd hd λam an hd=>A3 12 12013 0 m o0 T52 an Z f Z Z λao a ap f=>A4 λaq w ar m=>have o0:=od1 ar o0;AW 0 m o0 Z sizeOf58 f Z Z ap an Z Z Z λau w m av=>Bd hd λaw ax hd=>Bq 0 m av Z T52 f Z Z Z ax λay a az f=>AW 0 m av Z sizeOf58 f Z Z az ax Z Z Z λaA w m aB=>Az (Ab f Z λa f=>Ah f Z Z Ax λa f=>Ab f Z λa f=>Ah f Z Z AT λa f=>Ac f Z λa f=>Ac f Z λa f=>Aa (Ag (Bd hd λaC aD hd=> ?_)))
 refine AH (λa w=>∃aE:Int,aE=aC∧∃(aF:GH),GLe aq aF∧Fr a 178 [(0,v0),(1,iv x1),(4,Fv 80),(12,iv aE),(13,(iv (i64.wrap (x2-1))))]∧Mem W aF w (aA::H)) ?_ ?_
 ·refine Al (AE (λaG a w=>∃aH:Int,aH=aG∧∃(aI:GH),GLe aq aI∧Fr a 178 [(0,v0),(1,iv x1),(4,Fv 80),(12,iv aH),(13,(iv (i64.wrap (x2-1))))]∧Mem W aI w (aA::H)) aD ⟨_,Z,_,gr,f.k Z,m⟩ ?_)
  clear aD f m
  rintro aG aJ aK aL a w ⟨aH,rfl,aI,aM,f,m⟩
  refine have aB:=od1 aM aB;Ag (Ag (A8 16 AR (by kernel_rfl) m (Am 0 16 Z f Z λa f=>Am 1 16 Z f Z λa f=>q_p 2 16 Z f (λ_=>AP (f.e Z) (f.e Z) CA) λa f=>Am 3 16 Z f Z λa f=>Bd aK λaN aO aK=>BQ (fuel':=0) (listed':= #[true,true,true,true,true,true,true,true,true,true,true,true,true,true,true,true]) (λa=>Fr a 178 [(0,v0),(1,iv x1),(4,Fv 80),(12,iv aH),(13,(iv (i64.wrap (x2-1)))),(32,iv aH),(33,(iv (i64.wrap (x2-1)))),(34,(.bool (decide (aH≤(i64.wrap (x2-1)))))),(35,(.bool (decide (aH≤(i64.wrap (x2-1)))))),(47,(.bool aN))]) ?_ ?_)))
  ·intro a f
   refine A4 λaP w aQ m=>Aa ?_
   rcases Ae aK with⟨aR,aK⟩|⟨aR,aK⟩
   ·refine An f Z aR (Ao (Al (Ak (Ab f Z λa f=>Ah f Z Z Ax λa f=>Ac f Z λa f=>Aa ?_))))
    obtain rfl:=sj aK
    exact⟨_,Z,_,Z,_,(gt aM aQ),f.k Z,m⟩
   ·refine Ai f Z aR (AB Z ?_)
    obtain rfl:=sj aK
    obtain rfl:=aL _ rfl
    exact⟨_,Z,_,(gt aM aQ),f.k Z,m⟩
  ·intro aS
   rcases Ae aO with⟨aT,aO⟩|⟨aT,aO⟩
   ·refine Am (hw:=wo f aT) 4 16 Z f Z λa f=>Am (hw:=wo f aT) 5 16 Z f Z λa f=>Am (hw:=wo f aT) 6 16 Z f Z λa f=>Bd aO λaU aV aO=>A3 (hw:=wo f aT) 7 16 0 m aB T52 aV Z f Z Z λaW a aX f=>Bg (hw:=wo f aT) 8 16 0 aB A7 aX aV Z f Z λaY a aZ f=> ?_
    subst aZ
    refine Am (hw:=wo f aT) 9 16 Z f Z λa f=>Am (hw:=wo f aT) 10 16 Z f Z λa f=>Bd aO λa0 a1 aO=>A3 (hw:=wo f aT) 11 16 0 m aB T52 a1 Z f Z Z λa2 a a3 f=>Bg (hw:=wo f aT) 12 16 0 aB A7 a3 a1 Z f Z λa4 a a5 f=> ?_
    subst a5
    refine Bd aO λa6 a7 aO=>Ci (i:=13) 16 Z (by kernel_rfl) Z f (AV f Z Z Z aT) Z Z Z call80 (λ_ _ w a8 m=>Wk.a hW m a7) λa f=>q_p (hw:=wo f aT) 14 16 Z f (λ_=>AP (f.e Z) (f.e Z) AJ) λa f=>q_p 15 16 Z f (λ_=>AD (f.e Z) aT (f.e Z)) λa f=> ?_
    obtain rfl:=sj aO
    exact aS _ (f.k Z)
   ·refine Ap 4 16 Z f aT λa f=>Ap 5 16 Z f aT λa f=>Ap 6 16 Z f aT λa f=>Ap 7 16 Z f aT λa f=>Ap 8 16 Z f aT λa f=>Ap 9 16 Z f aT λa f=>Ap 10 16 Z f aT λa f=>Ap 11 16 Z f aT λa f=>Ap 12 16 Z f aT λa f=>Ap 13 16 Z f aT λa f=>Ap 14 16 Z f aT λa f=>q_p 15 16 Z f (λ_=>AC (f.e Z) aT (f.e Z)) λa f=> ?_
    obtain rfl:=sj aO
    exact aS _ (f.k Z)
 ·rintro a w ⟨aE,rfl,aF,a9,f,m⟩
  refine have aB:=od1 a9 aB;Ag (Bd hd λba bb hd=> ?_)
  refine AH (λa w=>∃bc:Int,bc=ba∧∃(bd:GH),GLe aF bd∧Fr a 178 [(0,v0),(1,iv x1),(4,Fv 80),(12,iv aE),(13,iv bc)]∧Mem W bd w (aA::H)) ?_ ?_
  ·refine Al (AE (λbe a w=>∃bf:Int,bf=be∧∃(bg:GH),GLe aF bg∧Fr a 178 [(0,v0),(1,iv x1),(4,Fv 80),(12,iv aE),(13,iv bf)]∧Mem W bg w (aA::H)) bb ⟨_,Z,_,gr,f.k Z,m⟩ ?_)
   clear bb f m
   rintro be bh bi bj a w ⟨bf,rfl,bg,bk,f,m⟩
   refine have aB:=od1 bk aB;Ag (Ag (A8 17 AR (by kernel_rfl) m (Am 0 17 Z f Z λa f=>Am 1 17 Z f Z λa f=>q_p 2 17 Z f (λ_=>AP (f.e Z) (f.e Z) CA) λa f=>Am 3 17 Z f Z λa f=>Bd bi λbl bm bi=>BQ (fuel':=0) (listed':= #[true,true,true,true,true,true,true,true,true,true,true,true,true,true,true,true,true]) (λa=>Fr a 178 [(0,v0),(1,iv x1),(4,Fv 80),(12,iv aE),(13,iv bf),(50,iv aE),(51,iv bf),(52,(.bool (decide (aE≤bf)))),(53,(.bool (decide (aE≤bf)))),(66,(.bool bl))]) ?_ ?_)))
   ·intro a f
    refine A4 λbn w bo m=>Aa ?_
    rcases Ae bi with⟨bp,bi⟩|⟨bp,bi⟩
    ·refine An f Z bp (Ao (Al (Ak (Ab f Z λa f=>Ah f Z Z AT λa f=>Ac f Z λa f=>Aa ?_))))
     obtain rfl:=sj bi
     exact⟨_,Z,_,Z,_,(gt bk bo),f.k Z,m⟩
    ·refine Ai f Z bp (AB Z ?_)
     obtain rfl:=sj bi
     obtain rfl:=bj _ rfl
     exact⟨_,Z,_,(gt bk bo),f.k Z,m⟩
   ·intro bq
    rcases Ae bm with⟨br,bm⟩|⟨br,bm⟩
    ·refine Am (hw:=wo f br) 4 17 Z f Z λa f=>Am (hw:=wo f br) 5 17 Z f Z λa f=>Am (hw:=wo f br) 6 17 Z f Z λa f=>Bd bm λbs bt bm=>A3 (hw:=wo f br) 7 17 0 m aB T52 bt Z f Z Z λbu a bv f=>Bg (hw:=wo f br) 8 17 0 aB A7 bv bt Z f Z λbw a bx f=> ?_
     subst bx
     refine Am (hw:=wo f br) 9 17 Z f Z λa f=>Am (hw:=wo f br) 10 17 Z f Z λa f=>Bd bm λbz bA bm=>A3 (hw:=wo f br) 11 17 0 m aB T52 bA Z f Z Z λbB a bC f=>Bg (hw:=wo f br) 12 17 0 aB A7 bC bA Z f Z λbD a bE f=> ?_
     subst bE
     refine Bd bm λbF bG bm=>Ci (i:=13) 17 Z (by kernel_rfl) Z f (AV f Z Z Z br) Z Z Z call80 (λ_ _ w bH m=>Wk.a hW m bG) λa f=>q_p (hw:=wo f br) 14 17 Z f (λ_=>AP (f.e Z) (f.e Z) AJ) λa f=>q_p (hw:=wo f br) 15 17 Z f (λ_=>Bc (f.e Z)) λa f=>q_p 16 17 Z f (λ_=>AD (f.e Z) br (f.e Z)) λa f=> ?_
     obtain rfl:=sj bm
     exact bq _ (f.k Z)
    ·refine Ap 4 17 Z f br λa f=>Ap 5 17 Z f br λa f=>Ap 6 17 Z f br λa f=>Ap 7 17 Z f br λa f=>Ap 8 17 Z f br λa f=>Ap 9 17 Z f br λa f=>Ap 10 17 Z f br λa f=>Ap 11 17 Z f br λa f=>Ap 12 17 Z f br λa f=>Ap 13 17 Z f br λa f=>Ap 14 17 Z f br λa f=>Ap 15 17 Z f br λa f=>q_p 16 17 Z f (λ_=>AC (f.e Z) br (f.e Z)) λa f=> ?_
     obtain rfl:=sj bm
     exact bq _ (f.k Z)
  ·rintro a w ⟨bc,rfl,bd,bI,f,m⟩
   refine have aB:=od1 bI aB;Ag (Af (Ab f Z λa f=>Ab f Z λa f=>Ah f Z Z BX λa f=>Aa ?_))
   rcases Ae hd with⟨bJ,hd⟩|⟨bJ,hd⟩
   ·refine An f Z bJ (Ag (B9 AR m (p_p 2 Z f (λ_=>Br (f.e Z)) λa f=>p_p 3 Z f (λ_=>Br (f.e Z)) λa f=>Ca 12013 11 (by kernel_rfl) Z (Am 0 12013 Z f Z λa f=>Am 1 12013 Z f Z λa f=>Am 4 12013 Z f Z λa f=>Am 5 12013 Z f Z λa f=>Bd hd λbK bL hd=>A3 6 12013 0 m aB T52 bL Z f Z Z λbM a bN f=>Bg 7 12013 0 aB A7 bN bL Z f Z λbO a bP f=> ?_))))
    subst bP
    refine Am 8 12013 Z f Z λa f=>Am 9 12013 Z f Z λa f=>Bd hd λbQ bR hd=>A3 10 12013 0 m aB T52 bR Z f Z Z λbS a bT f=>Bg 11 12013 0 aB A7 bT bR Z f Z λbU a bV f=> ?_
    subst bV
    refine Bd hd λbW bX hd=>A3 12 12013 0 m aB T52 bX Z f Z Z λbY a bZ f=>A4 λb0 w b1 m=>have aB:=od1 b1 aB;AW 0 m aB Z sizeOf58 f Z Z bZ bX Z Z Z λb2 w m b3=>Bd hd λb4 b5 hd=>Bq 0 m b3 Z T52 f Z Z Z b5 λb6 a b7 f=>AW 0 m b3 Z sizeOf58 f Z Z b7 b5 Z Z Z λb8 w m b9=>Az (Ab f Z λa f=>Ac f Z λa f=>Ac f Z λa f=>Aa (Aq ?_))
    obtain rfl:=sj hd
    exact⟨[iv bc,(.bool true)],⟨f.get _ _ Z,f.get _ _ Z,trivial⟩,f.d,_,[b8],(gt ar (gt a9 (gt bI b1))),m,_,Z,Z,b9⟩
   ·refine Ai f Z bJ (Ao (Ag (B9 AR m (p_p 2 Z f (λ_=>Br (f.e Z)) λa f=>p_p 3 Z f (λ_=>Br (f.e Z)) λa f=>Ca 12013 11 (by kernel_rfl) Z (Am 0 12013 Z f Z λa f=>Am 1 12013 Z f Z λa f=>Am 4 12013 Z f Z λa f=>Am 5 12013 Z f Z λa f=>Bd hd λca cb hd=>A3 6 12013 0 m aB T52 cb Z f Z Z λcc a cd f=>Bg 7 12013 0 aB A7 cd cb Z f Z λce a cf f=> ?_)))))
    subst cf
    refine Am 8 12013 Z f Z λa f=>Am 9 12013 Z f Z λa f=>Bd hd λcg ch hd=>A3 10 12013 0 m aB T52 ch Z f Z Z λci a cj f=>Bg 11 12013 0 aB A7 cj ch Z f Z λck a cl f=> ?_
    subst cl
    refine Bd hd λcm cn hd=>A3 12 12013 0 m aB T52 cn Z f Z Z λco a cp f=>A4 λcq w cr m=>have aB:=od1 cr aB;AW 0 m aB Z sizeOf58 f Z Z cp cn Z Z Z λcs w m ct=>Bd hd λcu cv hd=>Bq 0 m ct Z T52 f Z Z Z cv λcw a cx f=>AW 0 m ct Z sizeOf58 f Z Z cx cv Z Z Z λcy w m cz=>Az (Ab f Z λa f=>Ah f Z Z Ax λa f=>Ac f Z λa f=>Az (Ab f Z λa f=>Ah f Z Z AT λa f=>Ac f Z λa f=>Aa (Ag (Bd hd λcA cB hd=> ?_))))
    refine AH (λa w=>∃cC:LI,∃cD:Int,(cC,cD)=cA∧∃(cE:GH) (cF:Itm),GLe cq cE∧Fr a 178 [(0,v0),(1,iv x1),(13,iv cD)]∧Mem W cE w (cF::H)∧Ow (RI .u32) 58 cE cF v0 cC) ?_ ?_
    ·refine Al (AE (λcG a w=>∃cH:LI,∃cI:Int,∃cJ:Int,(cH,cI,cJ)=cG∧∃(cK:GH) (cL:Itm),GLe cq cK∧Fr a 178 [(0,v0),(1,iv x1),(4,Fv 80),(12,iv cI),(13,iv cJ)]∧Mem W cK w (cL::H)∧Ow (RI .u32) 58 cK cL v0 cH) cB ⟨_,_,_,Z,_,cy,gr,f.k Z,m,cz⟩ ?_)
     clear cB f m
     rintro cG cM cN cO a w ⟨cH,cI,cJ,rfl,cK,cL,cP,f,m,cQ⟩
     refine Al (Ag (Bd cN λcR cS cN=> ?_))
     refine AH (λa w=>∃cT:Int,cT=cR∧∃(cU:GH),GLe cK cU∧Fr a 178 [(0,v0),(1,iv x1),(4,Fv 80),(12,iv cT),(13,iv cJ)]∧Mem W cU w (cL::H)) ?_ ?_
     ·refine Al (AE (λcV a w=>∃cW:Int,cW=cV∧∃(cX:GH),GLe cK cX∧Fr a 178 [(0,v0),(1,iv x1),(4,Fv 80),(12,iv cW),(13,iv cJ)]∧Mem W cX w (cL::H)) cS ⟨_,Z,_,gr,f.k Z,m⟩ ?_)
      clear cS f m
      rintro cV cY cZ c0 a w ⟨cW,rfl,cX,c1,f,m⟩
      refine have cQ:=od1 c1 cQ;Ag (Ag (A8 16 AR (by kernel_rfl) m (Am 0 16 Z f Z λa f=>Am 1 16 Z f Z λa f=>q_p 2 16 Z f (λ_=>AP (f.e Z) (f.e Z) CA) λa f=>Am 3 16 Z f Z λa f=>Bd cZ λc2 c3 cZ=>BQ (fuel':=0) (listed':= #[true,true,true,true,true,true,true,true,true,true,true,true,true,true,true,true]) (λa=>Fr a 178 [(0,v0),(1,iv x1),(4,Fv 80),(12,iv cW),(13,iv cJ),(105,iv cW),(106,iv cJ),(107,(.bool (decide (cW≤cJ)))),(108,(.bool (decide (cW≤cJ)))),(120,(.bool c2))]) ?_ ?_)))
      ·intro a f
       refine A4 λc4 w c5 m=>Aa ?_
       rcases Ae cZ with⟨c6,cZ⟩|⟨c6,cZ⟩
       ·refine An f Z c6 (Ao (Al (Ak (Ab f Z λa f=>Ah f Z Z Ax λa f=>Ac f Z λa f=>Aa ?_))))
        obtain rfl:=sj cZ
        exact⟨_,Z,_,Z,_,(gt c1 c5),f.k Z,m⟩
       ·refine Ai f Z c6 (AB Z ?_)
        obtain rfl:=sj cZ
        obtain rfl:=c0 _ rfl
        exact⟨_,Z,_,(gt c1 c5),f.k Z,m⟩
      ·intro c7
       rcases Ae c3 with⟨c8,c3⟩|⟨c8,c3⟩
       ·refine Am (hw:=wo f c8) 4 16 Z f Z λa f=>Am (hw:=wo f c8) 5 16 Z f Z λa f=>Am (hw:=wo f c8) 6 16 Z f Z λa f=>Bd c3 λc9 da c3=>A3 (hw:=wo f c8) 7 16 0 m cQ T52 da Z f Z Z λdb a dc f=>Bg (hw:=wo f c8) 8 16 0 cQ A7 dc da Z f Z λdd a de f=> ?_
        subst de
        refine Am (hw:=wo f c8) 9 16 Z f Z λa f=>Am (hw:=wo f c8) 10 16 Z f Z λa f=>Bd c3 λdf dg c3=>A3 (hw:=wo f c8) 11 16 0 m cQ T52 dg Z f Z Z λdh a di f=>Bg (hw:=wo f c8) 12 16 0 cQ A7 di dg Z f Z λdj a dk f=> ?_
        subst dk
        refine Bd c3 λdl dm c3=>Ci (i:=13) 16 Z (by kernel_rfl) Z f (AV f Z Z Z c8) Z Z Z call80 (λ_ _ w dn m=>Wk.a hW m dm) λa f=>q_p (hw:=wo f c8) 14 16 Z f (λ_=>AP (f.e Z) (f.e Z) AJ) λa f=>q_p 15 16 Z f (λ_=>AD (f.e Z) c8 (f.e Z)) λa f=> ?_
        obtain rfl:=sj c3
        exact c7 _ (f.k Z)
       ·refine Ap 4 16 Z f c8 λa f=>Ap 5 16 Z f c8 λa f=>Ap 6 16 Z f c8 λa f=>Ap 7 16 Z f c8 λa f=>Ap 8 16 Z f c8 λa f=>Ap 9 16 Z f c8 λa f=>Ap 10 16 Z f c8 λa f=>Ap 11 16 Z f c8 λa f=>Ap 12 16 Z f c8 λa f=>Ap 13 16 Z f c8 λa f=>Ap 14 16 Z f c8 λa f=>q_p 15 16 Z f (λ_=>AC (f.e Z) c8 (f.e Z)) λa f=> ?_
        obtain rfl:=sj c3
        exact c7 _ (f.k Z)
     ·rintro a w ⟨cT,rfl,cU,dp,f,m⟩
      refine have cQ:=od1 dp cQ;Ag (Bd cN λdq dr cN=> ?_)
      refine AH (λa w=>∃ds:Int,ds=dq∧∃(dt:GH),GLe cU dt∧Fr a 178 [(0,v0),(1,iv x1),(4,Fv 80),(12,iv cT),(13,iv ds)]∧Mem W dt w (cL::H)) ?_ ?_
      ·refine Al (AE (λdu a w=>∃dv:Int,dv=du∧∃(dw:GH),GLe cU dw∧Fr a 178 [(0,v0),(1,iv x1),(4,Fv 80),(12,iv cT),(13,iv dv)]∧Mem W dw w (cL::H)) dr ⟨_,Z,_,gr,f.k Z,m⟩ ?_)
       clear dr f m
       rintro du dx dy dz a w ⟨dv,rfl,dw,dA,f,m⟩
       refine have cQ:=od1 dA cQ;Ag (Ag (A8 17 AR (by kernel_rfl) m (Am 0 17 Z f Z λa f=>Am 1 17 Z f Z λa f=>q_p 2 17 Z f (λ_=>AP (f.e Z) (f.e Z) CA) λa f=>Am 3 17 Z f Z λa f=>Bd dy λdB dC dy=>BQ (fuel':=0) (listed':= #[true,true,true,true,true,true,true,true,true,true,true,true,true,true,true,true,true]) (λa=>Fr a 178 [(0,v0),(1,iv x1),(4,Fv 80),(12,iv cT),(13,iv dv),(123,iv cT),(124,iv dv),(125,(.bool (decide (cT≤dv)))),(126,(.bool (decide (cT≤dv)))),(139,(.bool dB))]) ?_ ?_)))
       ·intro a f
        refine A4 λdD w dE m=>Aa ?_
        rcases Ae dy with⟨dF,dy⟩|⟨dF,dy⟩
        ·refine An f Z dF (Ao (Al (Ak (Ab f Z λa f=>Ah f Z Z AT λa f=>Ac f Z λa f=>Aa ?_))))
         obtain rfl:=sj dy
         exact⟨_,Z,_,Z,_,(gt dA dE),f.k Z,m⟩
        ·refine Ai f Z dF (AB Z ?_)
         obtain rfl:=sj dy
         obtain rfl:=dz _ rfl
         exact⟨_,Z,_,(gt dA dE),f.k Z,m⟩
       ·intro dG
        rcases Ae dC with⟨dH,dC⟩|⟨dH,dC⟩
        ·refine Am (hw:=wo f dH) 4 17 Z f Z λa f=>Am (hw:=wo f dH) 5 17 Z f Z λa f=>Am (hw:=wo f dH) 6 17 Z f Z λa f=>Bd dC λdI dJ dC=>A3 (hw:=wo f dH) 7 17 0 m cQ T52 dJ Z f Z Z λdK a dL f=>Bg (hw:=wo f dH) 8 17 0 cQ A7 dL dJ Z f Z λdM a dN f=> ?_
         subst dN
         refine Am (hw:=wo f dH) 9 17 Z f Z λa f=>Am (hw:=wo f dH) 10 17 Z f Z λa f=>Bd dC λdO dP dC=>A3 (hw:=wo f dH) 11 17 0 m cQ T52 dP Z f Z Z λdQ a dR f=>Bg (hw:=wo f dH) 12 17 0 cQ A7 dR dP Z f Z λdS a dT f=> ?_
         subst dT
         refine Bd dC λdU dV dC=>Ci (i:=13) 17 Z (by kernel_rfl) Z f (AV f Z Z Z dH) Z Z Z call80 (λ_ _ w dW m=>Wk.a hW m dV) λa f=>q_p (hw:=wo f dH) 14 17 Z f (λ_=>AP (f.e Z) (f.e Z) AJ) λa f=>q_p (hw:=wo f dH) 15 17 Z f (λ_=>Bc (f.e Z)) λa f=>q_p 16 17 Z f (λ_=>AD (f.e Z) dH (f.e Z)) λa f=> ?_
         obtain rfl:=sj dC
         exact dG _ (f.k Z)
        ·refine Ap 4 17 Z f dH λa f=>Ap 5 17 Z f dH λa f=>Ap 6 17 Z f dH λa f=>Ap 7 17 Z f dH λa f=>Ap 8 17 Z f dH λa f=>Ap 9 17 Z f dH λa f=>Ap 10 17 Z f dH λa f=>Ap 11 17 Z f dH λa f=>Ap 12 17 Z f dH λa f=>Ap 13 17 Z f dH λa f=>Ap 14 17 Z f dH λa f=>Ap 15 17 Z f dH λa f=>q_p 16 17 Z f (λ_=>AC (f.e Z) dH (f.e Z)) λa f=> ?_
         obtain rfl:=sj dC
         exact dG _ (f.k Z)
      ·rintro a w ⟨ds,rfl,dt,dX,f,m⟩
       refine have cQ:=od1 dX cQ;Ag (Af (Ab f Z λa f=>Ab f Z λa f=>Ah f Z Z BX λa f=>Aa ?_))
       rcases Ae cN with⟨dY,cN⟩|⟨dY,cN⟩
       ·refine An f Z dY (AB Z ?_)
        obtain rfl:=sj cN
        obtain rfl:=cO _ rfl
        exact⟨_,_,Z,_,cL,(gt cP (gt dp dX)),f.k Z,m,cQ⟩
       ·refine Ai f Z dY (Ao (Ag (B9 AR m (p_p 2 Z f (λ_=>Br (f.e Z)) λa f=>p_p 3 Z f (λ_=>Br (f.e Z)) λa f=>Ca 12013 11 (by kernel_rfl) Z (Am 0 12013 Z f Z λa f=>Am 1 12013 Z f Z λa f=>Am 4 12013 Z f Z λa f=>Am 5 12013 Z f Z λa f=>Bd cN λdZ d0 cN=>A3 6 12013 0 m cQ T52 d0 Z f Z Z λd1 a d2 f=>Bg 7 12013 0 cQ A7 d2 d0 Z f Z λd3 a d4 f=> ?_)))))
        subst d4
        refine Am 8 12013 Z f Z λa f=>Am 9 12013 Z f Z λa f=>Bd cN λd5 d6 cN=>A3 10 12013 0 m cQ T52 d6 Z f Z Z λd7 a d8 f=>Bg 11 12013 0 cQ A7 d8 d6 Z f Z λd9 a ea f=> ?_
        subst ea
        refine Bd cN λeb ec cN=>A3 12 12013 0 m cQ T52 ec Z f Z Z λed a ee f=>A4 λef w eg m=>have cQ:=od1 eg cQ;AW 0 m cQ Z sizeOf58 f Z Z ee ec Z Z Z λeh w m ei=>Bd cN λej ek cN=>Bq 0 m ei Z T52 f Z Z Z ek λel a em f=>AW 0 m ei Z sizeOf58 f Z Z em ek Z Z Z λen w m eo=>Az (Ab f Z λa f=>Ah f Z Z Ax λa f=>Ac f Z λa f=>Aa (Ak (Ab f Z λa f=>Ah f Z Z AT λa f=>Ac f Z λa f=>Aa ?_)))
        obtain rfl:=sj cN
        exact⟨_,Z,_,_,_,Z,_,en,(gt cP (gt dp (gt dX eg))),f.k Z,m,eo⟩
    ·rintro a w ⟨cC,cD,rfl,cE,cF,ep,f,m,eq⟩
     refine Ag (B9 AR m (p_p 2 Z f (λ_=>Br (f.e Z)) λa f=>p_p 3 Z f (λ_=>Br (f.e Z)) λa f=>Ca 12013 11 (by kernel_rfl) Z (Am 0 12013 Z f Z λa f=>Am 1 12013 Z f Z λa f=>Am 4 12013 Z f Z λa f=>Am 5 12013 Z f Z λa f=>Bd hd λer es hd=>A3 6 12013 0 m eq T52 es Z f Z Z λet a eu f=>Bg 7 12013 0 eq A7 eu es Z f Z λev a ew f=> ?_)))
     subst ew
     refine Am 8 12013 Z f Z λa f=>Am 9 12013 Z f Z λa f=>Bd hd λex ey hd=>A3 10 12013 0 m eq T52 ey Z f Z Z λez a eA f=>Bg 11 12013 0 eq A7 eA ey Z f Z λeB a eC f=> ?_
     subst eC
     refine Bd hd λeD eE hd=>A3 12 12013 0 m eq T52 eE Z f Z Z λeF a eG f=>A4 λeH w eI m=>have eq:=od1 eI eq;AW 0 m eq Z sizeOf58 f Z Z eG eE Z Z Z λeJ w m eK=>Bd hd λeL eM hd=>Bq 0 m eK Z T52 f Z Z Z eM λeN a eO f=>AW 0 m eK Z sizeOf58 f Z Z eO eM Z Z Z λeP w m eQ=>Az (Ab f Z λa f=>Ac f Z λa f=>Ac f Z λa f=>Aa (Aq ?_))
     obtain rfl:=sj hd
     exact⟨[iv cD,(.bool false)],⟨f.get _ _ Z,f.get _ _ Z,trivial⟩,f.d,_,[eP],(gt ar (gt a9 (gt bI (gt cr (gt ep eI))))),m,_,Z,Z,eQ⟩
theorem Wk.O {W:World}(hW:BD W)(n:Nat):∀{w:World} {G:GH} {H:List Itm} {v0:Value} {it0:Itm} {x0:LI} {x1 x2 x3:Int} (m:Mem W G w (it0::H)) (o0:Ow (RI .u32) 58 G it0 v0 x0) {y:(LI)} (hd:D.O n x0 x1 x2 x3=some y),
  Calls prog 94 #[v0,iv x1,iv x2,iv x3,Fv 80] w (Res W G H (λG' Ho _=>∃i0:Itm,Ho=[i0]∧Ow (RI .u32) 58 G' i0 v0 y)):=by
 induction n with
 |zero=>intros;rename_i hd;simp[D.O] at hd
 |succ fuel ih=>
  intro w G H v0 it0 x0 x1 x2 x3 m o0 y hd
  refine Aw (args:=[v0,iv x1,iv x2,iv x3,Fv 80]) (N:=148) [] func94 Z Z (lb Z) Z λa f=> ?_
  unfold D.O at hd
  refine Af (Ac f Z λa f=>Az (Ac f Z λa f=>Aa (Bd hd λaa ab hd=>Al (AE (λac a w=>∃ad:LI,∃ae:Int,∃af:Int,∃ag:Int,∃ah:Bool,∃ai:Bool,(ad,ae,af,ag,ah,ai)=ac∧∃(aj:GH) (ak:Itm),GLe G aj∧Fr a 148 [(0,v0),(1,iv ae),(2,iv af),(3,iv ag),(4,Fv 80),(10,(.bool ah)),(11,(.bool ai))]∧Mem W aj w (ak::H)∧Ow (RI .u32) 58 aj ak v0 ad) ab ⟨_,_,_,_,_,_,Z,_,it0,gr,f.k Z,m,o0⟩ ?_))))
  clear ab f m
  rintro ac al am an a w ⟨ad,ae,af,ag,ah,ai,rfl,aj,ak,ao,f,m,ap⟩
  refine Al (Af (Ab f Z λa f=>Ab f Z λa f=>Ah f Z Z AT λa f=>Ac f Z λa f=>Aa (Ag (Af (Ab f Z λa f=>Ah f Z Z CA λa f=>Aa ?_)))))
  rcases Ae am with⟨aq,am⟩|⟨aq,am⟩
  ·refine An f Z aq (Af (Ab f Z λa f=>Ab f Z λa f=>Ab f Z λa f=>Ab f Z λa f=>Bd am λar au am=>AZ f Z call99 (Wk.x1 hW m ap au) λav aw ax w ay m az a f=> ?_))
   obtain⟨aA,rfl,aB⟩:=az
   refine Aa (Aq ?_)
   obtain rfl:=sj am
   obtain rfl:=an _ rfl
   obtain rfl:=sj hd
   exact⟨[],trivial,f.d,_,[aA],(gt ao ay),m,_,Z,aB⟩
  ·refine Ai f Z aq (Ao (Ag (Af (Ab f Z λa f=>Ah f Z Z Bf λa f=>Aa ?_))))
   rcases Ae am with⟨aC,am⟩|⟨aC,am⟩
   ·refine An f Z aC (Af (Ab f Z λa f=>Ab f Z λa f=>Ab f Z λa f=>Ab f Z λa f=>Bd am λaD aE am=>AZ f Z call100 (Wk.j1 hW m ap aE) λaF aG aH w aI m aJ a f=> ?_))
    obtain⟨aK,rfl,aL⟩:=aJ
    refine Aa (Aq ?_)
    obtain rfl:=sj am
    obtain rfl:=an _ rfl
    obtain rfl:=sj hd
    exact⟨[],trivial,f.d,_,[aK],(gt ao aI),m,_,Z,aL⟩
   ·refine Ai f Z aC (Ao (Ag (Af (Ab f Z λa f=>l_o f (Bc (f.e Z)) λa f=>Aa (Bd am λaM aN am=> ?_)))))
    refine AH (λa w=>∃aO:LI,∃aP:Int,(aO,aP)=aM∧∃(aQ:GH) (aR:Itm),GLe aj aQ∧Fr a 148 [(0,v0),(1,iv ae),(2,iv af),(3,iv aP),(4,Fv 80),(10,(.bool ah)),(11,(.bool ai)),(12,(iv (i64.wrap (af-ae))))]∧Mem W aQ w (aR::H)∧Ow (RI .u32) 58 aQ aR v0 aO) ?_ ?_
    ·rcases Ae aN with⟨aS,aN⟩|⟨aS,aN⟩
     ·refine An f Z aS (Af (Ab f Z λa f=>Ab f Z λa f=>Ab f Z λa f=>Ab f Z λa f=>Bd aN λaT aU aN=>AZ f Z call101 (Wk.t1 m ap aU) λaV aW aX w aY m aZ a f=> ?_))
      obtain⟨a0,rfl,a1⟩:=aZ
      refine Aa (Ak (Ab f Z λa f=>Ah f Z Z AT λa f=>Ac f Z λa f=>Aa ?_))
      obtain rfl:=sj aN
      exact⟨_,_,Z,_,a0,aY,f.k Z,m,a1⟩
     ·refine Ai f Z aS (Ao ?_)
      obtain rfl:=sj aN
      exact⟨_,_,Z,_,ak,gr,f.k Z,m,ap⟩
    ·rintro a w ⟨aO,aP,rfl,aQ,aR,a2,f,m,a3⟩
     refine Af (Ab f Z λa f=>Ab f Z λa f=>Ab f Z λa f=>Ab f Z λa f=>Bd am λa4 a5 am=>AZ f Z call102 (Wk.h1 hW m a3 a5) λa6 a7 a8 w a9 m ba a f=> ?_)
     obtain⟨bb,rfl,rfl,bc⟩:=ba
     refine Ab f Z λa f=>l_o f (A2 (f.e Z) Z) λa f=>l_o f (A2 (f.e Z) Z) λa f=>Ac f Z λa f=>Ac f Z λa f=>Aa (Ag (Af (Ab f Z λa f=>Ah f Z Z Bf λa f=>Aa (Bd am λbd be am=> ?_))))
     refine AH (λa w=>∃bf:LI,∃bg:Int,∃bh:Int,(bf,bg,bh)=bd∧∃(bi:GH) (bj:Itm),GLe a7 bi∧Fr a 148 [(0,v0),(1,iv ae),(2,iv af),(3,iv aP),(4,Fv 80),(10,(.bool ah)),(11,(.bool ai)),(12,(iv (i64.wrap (af-ae)))),(13,iv bg),(14,iv bh)]∧Mem W bi w (bj::H)∧Ow (RI .u32) 58 bi bj v0 bf) ?_ ?_
     ·rcases Ae be with⟨bk,be⟩|⟨bk,be⟩
      ·refine An f Z bk (Af (Ab f Z λa f=>Ab f Z λa f=>Ab f Z λa f=>Ab f Z λa f=>Bd be λbl bm be=>AZ f Z call103 (Wk.u1 m bc bm) λbn bo bp w bq m br a f=> ?_))
       obtain⟨bs,rfl,bt⟩:=br
       refine Az (Ab f Z λa f=>Ah f Z Z AT λa f=>Ab f Z λa f=>Ab f Z λa f=>Ah f Z Z AT λa f=>Ah f Z Z AT λa f=>Ac f Z λa f=>Aa (Ak (Ac f Z λa f=>Aa ?_)))
       obtain rfl:=sj be
       exact⟨_,_,_,Z,_,bs,bq,f.k Z,m,bt⟩
      ·refine Ai f Z bk (Ao ?_)
       obtain rfl:=sj be
       exact⟨_,_,_,Z,_,bb,gr,f.k Z,m,bc⟩
     ·rintro a w ⟨bf,bg,bh,rfl,bi,bj,bu,f,m,bv⟩
      refine Ag (Af (Ab f Z λa f=>Ab f Z λa f=> ?_))
      refine Bi 2 (λa w=>∃bw,GLe bi bw∧Mem W bw w (bj::H)∧Fr a 148 [(0,v0),(1,iv ae),(2,iv af),(3,iv aP),(4,Fv 80),(10,(.bool ah)),(11,(.bool ai)),(12,(iv (i64.wrap (af-ae)))),(13,iv bg),(14,iv bh),(68,(.bool ah)),(69,(.bool ah)),(71,(.bool (ah&&ai)))]) ?_ ?_
      ·rcases Bool.eq_false_or_eq_true ah with bx|bx
       ·exact As f bx (Ab f Z λa f=>l_o f (AD (f.e Z) bx (f.e Z)) λa f=>⟨_,gr,m,f.weak ⟨Z,Z,Z,Z,Z,Z,Z,Z,Z,Z,Z,Z,by rw[bx];rfl,trivial⟩⟩)
       ·exact Au f bx λa f=>l_o f (AC (f.e Z) bx (f.e Z)) λa f=>⟨_,gr,m,f.weak ⟨Z,Z,Z,Z,Z,Z,Z,Z,Z,Z,Z,Z,by rw[bx];rfl,trivial⟩⟩
      ·rintro a w ⟨bw,bz,m,f⟩
       refine have bv:=od1 bz bv;Ab f Z λa f=> ?_
       refine Bi 3 (λa w=>∃bA,GLe bw bA∧Mem W bA w (bj::H)∧Fr a 148 [(0,v0),(1,iv ae),(2,iv af),(3,iv aP),(4,Fv 80),(10,(.bool ah)),(11,(.bool ai)),(12,(iv (i64.wrap (af-ae)))),(13,iv bg),(14,iv bh),(68,(.bool ah)),(69,(.bool ah)),(71,(.bool (ah&&ai))),(72,(.bool (ah&&ai))),(75,(.bool ((ah&&ai)&&(bh==1))))]) ?_ ?_
       ·rcases Bool.eq_false_or_eq_true (ah&&ai) with bB|bB
        ·exact As f bB (Ab f Z λa f=>As f bB (Ah f Z Z Bf λa f=>l_o f (AD (f.e Z) bB (f.e Z)) λa f=>⟨_,gr,m,f.weak ⟨Z,Z,Z,Z,Z,Z,Z,Z,Z,Z,Z,Z,Z,Z,by rw[bB];rfl,trivial⟩⟩))
        ·exact Au f bB λa f=>Au f bB λa f=>l_o f (AC (f.e Z) bB (f.e Z)) λa f=>⟨_,gr,m,f.weak ⟨Z,Z,Z,Z,Z,Z,Z,Z,Z,Z,Z,Z,Z,Z,by rw[bB];rfl,trivial⟩⟩
       ·rintro a w ⟨bA,bC,m,f⟩
        refine have bv:=od1 bC bv;Aa (Bd am λbD bE am=> ?_)
        refine AH (λa w=>∃j_513':LI,bD= .inl j_513'∧∃bF:LI,bF=j_513'∧∃(bG:GH) (bH:Itm),GLe bA bG∧Fr a 148 [(0,v0),(1,iv ae),(2,iv af),(3,iv aP),(4,Fv 80),(10,(.bool ah)),(11,(.bool ai)),(12,(iv (i64.wrap (af-ae)))),(13,iv bg)]∧Mem W bG w (bH::H)∧Ow (RI .u32) 58 bG bH v0 bF) ?_ ?_
        ·rcases Ae bE with⟨bI,bE⟩|⟨bI,bE⟩
         ·refine An f Z bI (Af (Ab f Z λa f=>Ab f Z λa f=>Ab f Z λa f=>Ab f Z λa f=>Bd bE λbJ bK bE=>AZ f Z call104 (Wk.w1 hW m bv bK) λbL bM bN w bO m bP a f=> ?_))
          obtain⟨bQ,rfl,rfl,bR⟩:=bP
          refine Aa ?_
          rcases Ae bE with⟨bS,bE⟩|⟨bS,bE⟩
          ·refine An f Z bS (Aq ?_)
           obtain rfl:=sj bE
           obtain rfl:=sj am
           obtain rfl:=an _ rfl
           obtain rfl:=sj hd
           exact⟨[],trivial,f.d,_,[bQ],(gt ao (gt a2 (gt a9 (gt bu (gt bz (gt bC bO)))))),m,_,Z,bR⟩
          ·refine Ai f Z bS (Ao ?_)
           obtain rfl:=sj bE
           exact⟨_,Z,_,Z,_,bQ,bO,f.k Z,m,bR⟩
         ·refine Ai f Z bI (Ao ?_)
          obtain rfl:=sj bE
          exact⟨_,Z,_,Z,_,bj,gr,f.k Z,m,bv⟩
        ·rintro a w ⟨_,rfl,bF,rfl,bG,bH,bT,f,m,bU⟩
         refine Ag (Ag (A8 17 AR (by kernel_rfl) m (Am 0 17 Z f Z λa f=>q_p 1 17 Z f (λ_=>AP (f.e Z) (f.e Z) BX) λa f=>Am 2 17 Z f Z λa f=>Bd am λbV bW am=>BQ (fuel':=0) (listed':= #[true,true,true,true,true,true,true,true,true,true,true,true,true,true,true,true,true]) (λa=>Fr a 148 [(0,v0),(1,iv ae),(2,iv af),(3,iv aP),(4,Fv 80),(10,(.bool ah)),(11,(.bool ai)),(12,(iv (i64.wrap (af-ae)))),(13,iv bg),(81,iv ae),(82,(.bool (decide ((0:Int)<ae)))),(83,(.bool (decide ((0:Int)<ae)))),(97,(.bool bV))]) ?_ ?_)))
         ·intro a f
          refine A4 λbX w bY m=>have bU:=od1 bY bU;Aa ?_
          rcases Ae am with⟨bZ,am⟩|⟨bZ,am⟩
          ·refine An f Z bZ (Af (Ab f Z λa f=>Ab f Z λa f=>Ab f Z λa f=>Ab f Z λa f=>Ab f Z λa f=>Bd am λb0 b1 am=>AZ f Z call105 (Wk.m1 hW m bU b1) λb2 b3 b4 w b5 m b6 a f=> ?_))
           obtain⟨b7,rfl,rfl,b8⟩:=b6
           refine Ac f Z λa f=>Az (Ab f Z λa f=>Ac f Z λa f=>Aa (AB Z ?_))
           obtain rfl:=sj am
           exact⟨_,Z,_,_,_,_,_,_,Z,_,b7,(gt ao (gt a2 (gt a9 (gt bu (gt bz (gt bC (gt bT (gt bY b5)))))))),f.k Z,m,b8⟩
          ·refine Ai f Z bZ (Ao (Af (Ab f Z λa f=>Ab f Z λa f=>Ab f Z λa f=>Ab f Z λa f=>Ab f Z λa f=>Bd am λb9 ca am=>AZ f Z call106 (Wk.p1 hW m bU ca) λcb cc cd w ce m cf a f=> ?_)))
           obtain⟨cg,rfl,rfl,ch⟩:=cf
           refine Ab f Z λa f=>l_o f (A2 (f.e Z) Z) λa f=>l_o f (A2 (f.e Z) Z) λa f=>Ac f Z λa f=>Ac f Z λa f=>Az (Ab f Z λa f=>Ac f Z λa f=>Az (Ab f Z λa f=>Ab f Z λa f=>Ah f Z Z AT λa f=>Ab f Z λa f=>Ab f Z λa f=>Ah f Z Z AT λa f=>Ac f Z λa f=>Ac f Z λa f=>Az (Ab f Z λa f=>Ah f Z Z (b_quo Z) λa f=>Ac f Z λa f=>Az (Ab f Z λa f=>Ab f Z λa f=>Ah f Z Z AJ λa f=>Aa ?_))))
           rcases Ae am with⟨ci,am⟩|⟨ci,am⟩
           ·refine An f Z ci (Af (Ab f Z λa f=>Ab f Z λa f=>Ah f Z Z Ck λa f=>Ac f Z λa f=>Az (Ab f Z λa f=>Ab f Z λa f=>Ab f Z λa f=>Ab f Z λa f=>Ab f Z λa f=>Bd am λcj ck am=>AZ f Z call94 (ih m ch ck) λcl cm cn w co m cp a f=> ?_)))
            obtain⟨cq,rfl,cr⟩:=cp
            refine Aa (Ak (Ab f Z λa f=>Ah f Z Z Ax λa f=>Ac f Z λa f=>Aa ?_))
            obtain rfl:=sj am
            exact⟨_,Z,_,_,_,_,_,_,Z,_,cq,(gt ao (gt a2 (gt a9 (gt bu (gt bz (gt bC (gt bT (gt bY (gt ce co))))))))),f.k Z,m,cr⟩
           ·refine Ai f Z ci (Af (Ab f Z λa f=>Ab f Z λa f=>Ah f Z Z Ck λa f=>Ac f Z λa f=>Az (Ab f Z λa f=>Ab f Z λa f=>Ah f Z Z Ax λa f=>Ab f Z λa f=>Ab f Z λa f=>Ab f Z λa f=>Bd am λcs ct am=>AZ f Z call94 (ih m ch ct) λcu cv cw w cx m cy a f=> ?_)))
            obtain⟨cz,rfl,cA⟩:=cy
            refine Aa (Ak (Ab f Z λa f=>Ac f Z λa f=>Aa ?_))
            obtain rfl:=sj am
            exact⟨_,Z,_,_,_,_,_,_,Z,_,cz,(gt ao (gt a2 (gt a9 (gt bu (gt bz (gt bC (gt bT (gt bY (gt ce cx))))))))),f.k Z,m,cA⟩
         ·intro cB
          rcases Ae bW with⟨cC,bW⟩|⟨cC,bW⟩
          ·refine Am (hw:=wo f cC) 3 17 Z f Z λa f=>Am (hw:=wo f cC) 4 17 Z f Z λa f=>Am (hw:=wo f cC) 5 17 Z f Z λa f=>q_p (hw:=wo f cC) 6 17 Z f (λ_=>AP (f.e Z) (f.e Z) AT) λa f=>Bd bW λcD cE bW=>A3 (hw:=wo f cC) 7 17 0 m bU T52 cE Z f Z Z λcF a cG f=>Bg (hw:=wo f cC) 8 17 0 bU A7 cG cE Z f Z λcH a cI f=> ?_
           subst cI
           refine Am (hw:=wo f cC) 9 17 Z f Z λa f=>Am (hw:=wo f cC) 10 17 Z f Z λa f=>Bd bW λcJ cK bW=>A3 (hw:=wo f cC) 11 17 0 m bU T52 cK Z f Z Z λcL a cM f=>Bg (hw:=wo f cC) 12 17 0 bU A7 cM cK Z f Z λcN a cO f=> ?_
           subst cO
           refine Bd bW λcP cQ bW=>Ci (i:=13) 17 Z (by kernel_rfl) Z f (AV f Z Z Z cC) Z Z Z call80 (λ_ _ w cR m=>Wk.a hW m cQ) λa f=>q_p (hw:=wo f cC) 14 17 Z f (λ_=>AP (f.e Z) (f.e Z) AJ) λa f=>q_p (hw:=wo f cC) 15 17 Z f (λ_=>Bc (f.e Z)) λa f=>q_p 16 17 Z f (λ_=>AD (f.e Z) cC (f.e Z)) λa f=> ?_
           obtain rfl:=sj bW
           exact cB _ (f.k Z)
          ·refine Ap 3 17 Z f cC λa f=>Ap 4 17 Z f cC λa f=>Ap 5 17 Z f cC λa f=>Ap 6 17 Z f cC λa f=>Ap 7 17 Z f cC λa f=>Ap 8 17 Z f cC λa f=>Ap 9 17 Z f cC λa f=>Ap 10 17 Z f cC λa f=>Ap 11 17 Z f cC λa f=>Ap 12 17 Z f cC λa f=>Ap 13 17 Z f cC λa f=>Ap 14 17 Z f cC λa f=>Ap 15 17 Z f cC λa f=>q_p 16 17 Z f (λ_=>AC (f.e Z) cC (f.e Z)) λa f=> ?_
           obtain rfl:=sj bW
           exact cB _ (f.k Z)
theorem Wk.s {v0:Value}{it0:Itm}{x0:LI}{x1 x2 x3:Int}(hW:BD W)(m:Mem W G w (it0::H))(o0:Ow (RI .u32) 58 G it0 v0 x0){y:(LI)}(hd:D.s x0 x1 x2 x3=some y):
  Calls prog 94 #[v0,iv x1,iv x2,iv x3,Fv 80] w (Res W G H (λG' Ho _=>∃i0:Itm,Ho=[i0]∧Ow (RI .u32) 58 G' i0 v0 y)):=by
 exact Wk.O hW BP m o0 hd
theorem Wk.W0 {v0:Value}{it0:Itm}{x0:LI}(hW:BD W)(m:Mem W G w (it0::H))(o0:Ow (RI .u32) 58 G it0 v0 x0){y:(LI)}(hd:D.W0 x0=some y):
  Calls prog 79 #[v0,Fv 80] w (Res W G H (λG' Ho _=>∃i0:Itm,Ho=[i0]∧Ow (RI .u32) 58 G' i0 v0 y)):=by
 refine Aw (args:=[v0,Fv 80]) (N:=14) [] func79 Z Z (lb Z) Z λa f=> ?_
 unfold D.W0 at hd
 refine Af (Ab f Z λa f=>Bz 0 m o0 Z underlying52 f Z Z λa f=>Ac f Z λa f=>Aa (Ak (Ab f Z λa f=>Ab f Z λa f=>Ab f Z λa f=>l_o f (CU (f.e Z) ⟨_,underlying3⟩ underlying49) λa f=>Bd hd λaa ab hd=>AZ f Z call95 (Wk.S m ab) λac ad ae w af m ag a f=> ?_)))
 obtain⟨rfl,rfl⟩:=ag
 refine have o0:=od1 af o0;Ab f Z λa f=>Bd hd λah ai hd=>AZ f Z call94 (Wk.s hW m o0 ai) λaj ak al w am m an a f=> ?_
 obtain⟨ao,rfl,ap⟩:=an
 refine Aa ?_
 obtain rfl:=sj hd
 exact⟨[],trivial,f.d,_,[ao],(gt af am),m,_,Z,ap⟩
theorem Wk.P0 {v0:Value}{x0:LI}(hW:BD W)(m:Mem W G w (H))(h0:RSl (RI .u32) G v0 x0){y:(LI)}(hd:D.P0 x0=some y):
  Calls prog 42 #[v0] w (Res W G H (λG' Ho v=>∃r0:Value,∃i0:Itm,Ho=[i0]∧r0=v∧Ow (RI .u32) 58 G' i0 r0 y)):=by
 refine Aw (args:=[v0]) (N:=25) [.tmp 2] func42 Z Z (lb Z) Z λa f=> ?_
 unfold D.P0 at hd
 refine Af (Ac f Z λa f=>Az (AX (R:=(RI .u32)) (xs:=([]:LI)) (RI.one _) m T52 f Z Z Z (by decide) (All2.nil _) λaa ab w a m ac f=>Ac f Z λa f=>Aa (Ag (Af (Ac f Z λa f=>Aa (Bd hd λad ae hd=> ?_))))))
 refine AH (λa w=>∃af:LI,af=ad∧∃(ag:GH) (ah:Value) (ai:Itm),GLe G ag∧Fr a 25 [(3,ah)]∧Mem W ag w (ai::H)∧Ow (RI .u32) 58 ag ai ah af) ?_ ?_
 ·refine Al (AE (λaj a w=>∃ak:LI,∃al:Int,(ak,al)=aj∧∃(am:GH) (an:Value) (ao:Itm),GLe G am∧Fr a 25 [(0,v0),(3,an),(4,(.int .u32 al))]∧Mem W am w (ao::H)∧Ow (RI .u32) 58 am ao an ak) ae ⟨_,_,Z,_,ab,aa,gr,f.k Z,m,ac⟩ ?_)
  clear ae f m
  rintro aj ap aq ar a w ⟨ak,al,rfl,am,an,ao,au,f,m,av⟩
  refine have h0:=rd1 au h0;Ag (Af (Ab f Z λa f=>Ab f Z λa f=>Bd aq λaw ax aq=>A1 f Z call26 (Wk.r m h0 ax) λay w az m a f=>have h0:=rd1 az h0;have av:=od1 az av;Ah f Z Z CA λa f=>Aa ?_))
  rcases Ae aq with⟨aA,aq⟩|⟨aA,aq⟩
  ·refine An f Z aA (Ao (Ag (Al (Af (Ab f Z λa f=>Ab f Z λa f=>Bd aq λaB aC aq=>A1 f Z call26 (Wk.r m h0 aC) λaD w aE m a f=>have h0:=rd1 aE h0;have av:=od1 aE av;Ab f Z λa f=>Bd aq λaF aG aq=>A1 f Z call77 (Wk.C hW m h0 aG) λaH w aI m a f=>have av:=od1 aI av;Ah f Z Z Bf λa f=>Aa ?_)))))
   rcases Ae aq with⟨aJ,aq⟩|⟨aJ,aq⟩
   ·refine An f Z aJ (Ak (Ab f Z λa f=>Ab f Z λa f=>AX (R:=(RI .u32)) (xs:=([al]:LI)) (RI.one _) m T52 f Z Z Z (by decide) (All2.cons Z (All2.nil _)) λaK aL w a m aM f=>Bd aq λaN aO aq=>Be (RI.one _) 1 m av Z T52 Z (by decide) f Z Z Z (Ow.src (j:=0) aM m Z) aO λaP aQ w a m aR f=>Ac f Z λa f=>Aa (Ak (Ab f Z λa f=>Ah f Z Z Ax λa f=>Ac f Z λa f=>Aa (have m:=m.fr 1;have m:=m.eraseAt 1;?_)))))
    obtain rfl:=sj aq
    exact⟨_,Z,_,_,Z,_,aQ,aP,(gt au (gt az (gt aE aI))),f.k Z,m,aR⟩
   ·refine Ai f Z aJ (Ao (Ak (Ab f Z λa f=>Ah f Z Z Ax λa f=>Ac f Z λa f=>Aa ?_)))
    obtain rfl:=sj aq
    exact⟨_,Z,_,_,Z,_,an,ao,(gt au (gt az (gt aE aI))),f.k Z,m,av⟩
  ·refine Ai f Z aA (AB Z ?_)
   obtain rfl:=sj aq
   obtain rfl:=ar _ rfl
   exact⟨_,Z,_,an,ao,(gt au az),f.k Z,m,av⟩
 ·rintro a w ⟨af,rfl,ag,ah,ai,aS,f,m,aT⟩
  refine Af (Ab f Z λa f=>Bd hd λaU aV hd=>AZ f Z call79 (Wk.W0 hW m aT aV) λaW aX aY w aZ m a0 a f=> ?_)
  obtain⟨a1,rfl,a2⟩:=a0
  refine Az (Ab f Z λa f=>Ac f Z λa f=>Aa (Aq ?_))
  obtain rfl:=sj hd
  exact⟨[ah],f.g Z,f.d,_,[a1],(gt aS aZ),m,_,_,Z,Z,a2⟩
theorem Wk.j0 {b1:Nat}{x0 aa:Int}(m:Mem W G w (ib b1 58 [(.int .u32 aa)]::H)){y:Bool}(hd:D.j0 x0 aa=some y):
  Calls prog 43 #[(.int .u32 x0),pb b1] w (Res W G H (λ_ Ho v=>Ho=[ib b1 58 [(.int .u32 aa)]]∧v=(.bool y))):=by
 refine Aw (args:=[(.int .u32 x0),pb b1]) (N:=20) [.tmp 3] func43 Z Z (lb Z) Z λa f=> ?_
 unfold D.j0 at hd
 refine Af (Ac f Z λa f=>Az (AI 0 0 m A7 f Z Z Z Z λa f=>Ab f Z λa f=>Ah f Z Z CY λa f=>Ah f Z Z BN λa f=>Ab f Z λa f=> ?_))
 refine Bi 5 (λa w=>∃ab,GLe G ab∧Mem W ab w (ib b1 58 [(.int .u32 aa)]::H)∧Fr a 20 [(0,(.int .u32 x0)),(1,pb b1),(4,(.int .u32 aa)),(5,(.int .u32 x0)),(6,(.int .u32 (iand .u32 aa x0))),(7,(.bool ((iand .u32 aa x0) !=0))),(8,(.bool ((iand .u32 aa x0) !=0))),(13,(.bool (((iand .u32 aa x0) !=0)&&((iandNot .u32 aa x0) !=0))))]) ?_ ?_
 ·rcases Bool.eq_false_or_eq_true ((iand .u32 aa x0) !=0) with ac|ac
  ·exact As f ac (AI 0 0 m A7 f Z Z Z Z λa f=>As f ac (Ab f Z λa f=>As f ac (Ah f Z Z CS λa f=>As f ac (Ah f Z Z BN λa f=>l_o f (AD (f.e Z) ac (f.e Z)) λa f=>⟨_,gr,m,f.weak ⟨Z,Z,Z,Z,Z,Z,Z,by rw[ac];rfl,trivial⟩⟩))))
  ·exact Au f ac λa f=>Au f ac λa f=>Au f ac λa f=>Au f ac λa f=>l_o f (AC (f.e Z) ac (f.e Z)) λa f=>⟨_,gr,m,f.weak ⟨Z,Z,Z,Z,Z,Z,Z,by rw[ac];rfl,trivial⟩⟩
 ·rintro a w ⟨ab,ad,m,f⟩
  refine Ab f Z λa f=> ?_
  refine Bi 5 (λa w=>∃ae,GLe ab ae∧Mem W ae w (ib b1 58 [(.int .u32 aa)]::H)∧Fr a 20 [(0,(.int .u32 x0)),(1,pb b1),(4,(.int .u32 aa)),(5,(.int .u32 x0)),(6,(.int .u32 (iand .u32 aa x0))),(7,(.bool ((iand .u32 aa x0) !=0))),(8,(.bool ((iand .u32 aa x0) !=0))),(13,(.bool (((iand .u32 aa x0) !=0)&&((iandNot .u32 aa x0) !=0)))),(14,(.bool (((iand .u32 aa x0) !=0)&&((iandNot .u32 aa x0) !=0)))),(19,(.bool ((((iand .u32 aa x0) !=0)&&((iandNot .u32 aa x0) !=0))&&((iandNot .u32 x0 aa) !=0))))]) ?_ ?_
  ·rcases Bool.eq_false_or_eq_true (((iand .u32 aa x0) !=0)&&((iandNot .u32 aa x0) !=0)) with af|af
   ·exact As f af (Ab f Z λa f=>As f af (AI 0 0 m A7 f Z Z Z Z λa f=>As f af (Ah f Z Z CS λa f=>As f af (Ah f Z Z BN λa f=>l_o f (AD (f.e Z) af (f.e Z)) λa f=>⟨_,gr,m,f.weak ⟨Z,Z,Z,Z,Z,Z,Z,Z,Z,by rw[af];rfl,trivial⟩⟩))))
   ·exact Au f af λa f=>Au f af λa f=>Au f af λa f=>Au f af λa f=>l_o f (AC (f.e Z) af (f.e Z)) λa f=>⟨_,gr,m,f.weak ⟨Z,Z,Z,Z,Z,Z,Z,Z,Z,by rw[af];rfl,trivial⟩⟩
  ·rintro a w ⟨ae,ag,m,f⟩
   refine Ac f Z λa f=>Aa (Aq ?_)
   obtain rfl:=sj hd
   exact⟨[(.bool ((((iand .u32 aa x0) !=0)&&((iandNot .u32 aa x0) !=0))&&((iandNot .u32 x0 aa) !=0)))],f.g Z,f.d,_,[ib b1 58 [(.int .u32 aa)]],(gt ad ag),m,Z,Z⟩
theorem Wk.g1 {v0:Value}{b1c0:Nat}{x0:LI}{aa:Int}(m:Mem W G w (ib b1c0 58 [(.int .u32 aa)]::H))(h0:RSl (RI .u32) G v0 x0){y:Int}(hd:D.g1 x0 aa=some y):
  Calls prog 78 #[v0,Fw 43 #[(pb b1c0)]] w (Res W G H (λ_ Ho v=>Ho=[ib b1c0 58 [(.int .u32 aa)]]∧v=(iv y))):=by
 refine Aw (args:=[v0,Fw 43 #[(pb b1c0)]]) (N:=19) [.tmp 4] func78 Z Z (lb Z) Z λa f=> ?_
 unfold D.g1 at hd
 refine Af (Ac f Z λa f=>Aa (Ag (Af (Ab f Z λa f=>AS underlying52 f Z Z h0 λa f=>Ab f Z λa f=>Aa (Bd hd λab ac hd=> ?_)))))
 refine AH (λa w=>∃q_33':Unit,ab= .inl q_33'∧∃(ad:GH),GLe G ad∧Fr a 19 []∧Mem W ad w (ib b1c0 58 [(.int .u32 aa)]::H)) ?_ ?_
 ·refine Al (AE (λae a w=>∃af:Int,af=ae∧∃(ag:GH),GLe G ag∧Fr a 19 [(0,v0),(1,Fw 43 #[(pb b1c0)]),(7,(iv (x0.length:Int))),(8,iv af)]∧Mem W ag w (ib b1c0 58 [(.int .u32 aa)]::H)) ac ⟨_,Z,_,gr,f.k Z,m⟩ ?_)
  clear ac f m
  rintro ae ah ai aj a w ⟨af,rfl,ag,ak,f,m⟩
  refine have h0:=rd1 ak h0;Af (Ah f Z Z AJ λa f=>Aa (Ag ?_))
  rcases Ae ai with⟨al,ai⟩|⟨al,ai⟩
  ·refine An f Z al (Ao (Ag (Al (Af (Ab f Z λa f=>Ac f Z λa f=>Az (Ab f Z λa f=>Ab f Z λa f=>Ab f Z λa f=>Bd ai λam an ai=>Bt T52 f Z Z Z h0 an λao ap a aq ar f=> ?_))))))
   subst ar
   refine AL m A7 f Z Z aq λa f=>Bd ai λau av ai=>l_resv0 f Z Z Z call43 (Wk.j0 m av) λaw ax ay w az m aA a f=> ?_
   obtain⟨rfl,rfl⟩:=aA
   refine Aa ?_
   rcases Ae ai with⟨aB,ai⟩|⟨aB,ai⟩
   ·refine An f Z aB (Af (Ab f Z λa f=>Ac f Z λa f=>Aa (Aq ?_)))
    obtain rfl:=sj ai
    obtain rfl:=aj _ rfl
    obtain rfl:=sj hd
    exact⟨[iv af],f.g Z,f.d,_,[ib b1c0 58 [(.int .u32 aa)]],(gt ak az),m,Z,Z⟩
   ·refine Ai f Z aB (Ao (Ak (Ah f Z Z Ax λa f=>Ab f Z λa f=>Aa ?_)))
    obtain rfl:=sj ai
    exact⟨_,Z,_,Z,_,(gt ak az),f.k Z,m⟩
  ·refine Ai f Z al (AB Z ?_)
   obtain rfl:=sj ai
   obtain rfl:=aj _ rfl
   exact⟨_,Z,_,ak,f.weak trivial,m⟩
 ·rintro a w ⟨_,rfl,ad,aC,f,m⟩
  refine Af (Ac f Z λa f=>Aa (Aq ?_))
  obtain rfl:=sj hd
  exact⟨[(iv (-1))],f.g Z,f.d,_,[ib b1c0 58 [(.int .u32 aa)]],aC,m,Z,Z⟩
theorem Wk.l1 {v0:Value}{b1c0:Nat}{x0:LI}{aa:Int}(m:Mem W G w (ib b1c0 58 [(.int .u32 aa)]::H))(h0:RSl (RI .u32) G v0 x0){y:Bool}(hd:D.l1 x0 aa=some y):
  Calls prog 41 #[v0,Fw 43 #[(pb b1c0)]] w (Res W G H (λ_ Ho v=>Ho=[ib b1c0 58 [(.int .u32 aa)]]∧v=(.bool y))):=by
 refine Aw (args:=[v0,Fw 43 #[(pb b1c0)]]) (N:=9) [.tmp 4] func41 Z Z (lb Z) Z λa f=> ?_
 unfold D.l1 at hd
 refine Af (Ac f Z λa f=>Az (Ab f Z λa f=>Ab f Z λa f=>Bd hd λab ac hd=>AZ f Z call78 (Wk.g1 m h0 ac) λad ae af w ag m ah a f=> ?_))
 obtain⟨rfl,rfl⟩:=ah
 refine Ah f Z Z Ck λa f=>Ac f Z λa f=>Aa (Aq ?_)
 obtain rfl:=sj hd
 exact⟨[(.bool (decide ((0:Int)≤ab)))],f.g Z,f.d,_,[ib b1c0 58 [(.int .u32 aa)]],ag,m,Z,Z⟩
theorem Wk.n {aa v1:Value}{ab:LL}{x1:LI}(hW:BD W)(m:Mem W G w (H))(ac:R2 G aa ab)(h1:R1 G v1 x1){y:Bool}(hd:D.n ab x1=some y):
  Calls prog 13 #[(.agg #[aa]),v1] w (Res W G H (λ_ Ho v=>Ho=[]∧v=(.bool y))):=by
 refine Aw (args:=[(.agg #[aa]),v1]) (N:=23) [.tmp 4] func13 Z Z (lb Z) Z λa f=> ?_
 unfold D.n at hd
 refine Af (Bv (cs:=[aa]) m f Z Z Z λad w a m f=>Ac f Z λa f=>Aa (Ag (Af (AN 0 0 (ds:=[aa]) m AU f Z Z Z Z Z λa f=>Bd hd λae af hd=>A1 f Z call38 (Wk.e1 m ac af) λag w ah m a f=>have ac:=rd2 ah ac;have h1:=rd1 ah h1;l_o f (Bc (f.e Z)) λa f=>Ab f Z λa f=>Bd hd λai aj hd=> ?_))))
 refine Bi 5 (λa w=>∃ak,GLe ag ak∧Mem W ak w (ib ad 29 [aa]::H)∧Fr a 23 [(0,(.agg #[aa])),(1,v1),(2,pb ad),(6,(.agg #[aa])),(7,(.bool ae)),(8,(.bool (!ae))),(9,(.bool (!ae))),(14,(.bool ai))]) ?_ ?_
 ·rcases Ae aj with⟨al,aj⟩|⟨al,aj⟩
  ·refine Au f al λa f=>Au f al λa f=>Au f al λa f=>Au f al λa f=>l_o f (AD (f.e Z) al (f.e Z)) λa f=> ?_
   obtain rfl:=sj aj
   exact⟨_,gr,m,f.k Z⟩
  ·refine As f al (AN 0 0 (ds:=[aa]) m AU f Z Z Z Z Z λa f=>As f al (Ab f Z λa f=>As f al (Bd aj λam an aj=>A1 f Z call39 (Wk.D0 hW m ac h1 an) λao w ap m a f=>As f al (l_o f (Bc (f.e Z)) λa f=>l_o f (AC (f.e Z) al (f.e Z)) λa f=> ?_))))
   obtain rfl:=sj aj
   exact⟨_,ap,m,f.k Z⟩
 ·rintro a w ⟨ak,aq,m,f⟩
  refine have ac:=rd2 aq ac;have h1:=rd1 aq h1;Aa ?_
  rcases Ae hd with⟨ar,hd⟩|⟨ar,hd⟩
  ·refine An f Z ar (Af (Ac f Z λa f=>Aa (Aq (have m:=m.dp 1;?_))))
   obtain rfl:=sj hd
   exact⟨[(.bool false)],f.g Z,f.d,_,[],(gt ah aq),m,Z,Z⟩
  ·refine Ai f Z ar (Ao (Af (Ab f Z λa f=>Bd hd λau av hd=>A1 f Z call40 (Wk.A m h1 av) λaw w ax m a f=>have ac:=rd2 ax ac;Bj (cs:=[(.int .u32 0)]) zeroValue58 m f Z Z λay w a m f=>AA 0 0 (ds:=[(.int .u32 au)]) m sizeOf58 f Z Z Z (Ay Z AQ) Z (lb Z) Z λw m=>Az (AN 1 0 (ds:=[aa]) m AU f Z Z Z Z Z λa f=>Bd hd λaz aA hd=>BS f Z call23 (Wk.v m ac aA) λaB aC aD w aE m aF a f=>Bd hd λaG aH hd=>BS f Z call42 (Ow.lendCall (RI.mono _) 0 aF m Z (λaI aJ m aK=>Wk.P0 hW m aK aH) (λ_ G' _ _ ⟨a0,a1,e1,e2,o0⟩=>⟨a0,a1,e1,e2,Ow.free (RI.free _) G' o0⟩)) λaL aM aN w aO m aP a f=>l_makeFunc f Z Z Z λa f=> ?_))))
   obtain⟨aQ,aR,m,aS⟩:=Ow.stamp (RI.mono _) aP m
   refine have m:=m.fr 1;Bd hd λaT aU hd=>AZ f Z call41 (Wk.l1 m aS aU) λaV aW aX w aY m aZ a f=> ?_
   obtain⟨rfl,rfl⟩:=aZ
   refine l_o f (Bc (f.e Z)) λa f=>Ac f Z λa f=>Aa (Aq (have m:=m.dp 3;?_))
   obtain rfl:=sj hd
   exact⟨[(.bool (!aT))],f.g Z,f.d,_,[],(gt ah (gt aq (gt ax (gt aE (gt aO (gt aR aY)))))),m,Z,Z⟩
theorem Wk.r0 {v0 v1 v2:Value}{x0 x1 x2:LI}(hW:BD W)(m:Mem W G w (H))(h0:R1 G v0 x0)(h1:R1 G v1 x1)(h2:RSl (RI .u32) G v2 x2){y:Bool}(hd:D.r0 x0 x1 x2=some y):
  Calls prog 81 #[v0,v1,v2] w (Res W G H (λ_ Ho v=>Ho=[]∧v=(.bool y))):=by
 refine Aw (args:=[v0,v1,v2]) (N:=60) [.tmp 6] func81 Z Z (lb Z) Z λa f=> ?_
 unfold D.r0 at hd
 refine Af (Ac f Z λa f=>Aa (Ag (Af (Ab f Z λa f=>AS underlying39 f Z Z h0 λa f=>Ah f Z Z AJ λa f=>Ab f Z λa f=> ?_))))
 refine Bi 6 (λa w=>∃aa,GLe G aa∧Mem W aa w (H)∧Fr a 60 [(0,v0),(1,v1),(2,v2),(9,v0),(10,(iv (x0.length:Int))),(11,(.bool (decide ((x0.length:Int)<2)))),(12,(.bool (decide ((x0.length:Int)<2)))),(18,(.bool ((decide ((x0.length:Int)<2))||(decide ((x1.length:Int)<(x0.length:Int))))))]) ?_ ?_
 ·rcases Bool.eq_false_or_eq_true (decide ((x0.length:Int)<2)) with ab|ab
  ·exact Au f ab λa f=>Au f ab λa f=>Au f ab λa f=>Au f ab λa f=>Au f ab λa f=>l_o f (AD (f.e Z) ab (f.e Z)) λa f=>⟨_,gr,m,f.weak ⟨Z,Z,Z,Z,Z,Z,Z,by rw[ab];rfl,trivial⟩⟩
  ·exact As f ab (Ab f Z λa f=>As f ab (AS underlying39 f Z Z h0 λa f=>As f ab (Ab f Z λa f=>As f ab (AS underlying75 f Z Z h1 λa f=>As f ab (Ah f Z Z BX λa f=>l_o f (AC (f.e Z) ab (f.e Z)) λa f=>⟨_,gr,m,f.weak ⟨Z,Z,Z,Z,Z,Z,Z,by rw[ab];rfl,trivial⟩⟩)))))
 ·rintro a w ⟨aa,ac,m,f⟩
  refine have h0:=rd1 ac h0;have h1:=rd1 ac h1;have h2:=rd1 ac h2;Aa ?_
  rcases Ae hd with⟨ad,hd⟩|⟨ad,hd⟩
  ·refine An f Z ad (Af (Ac f Z λa f=>Aa (Aq ?_)))
   obtain rfl:=sj hd
   exact⟨[(.bool false)],f.g Z,f.d,_,[],ac,m,Z,Z⟩
  ·refine Ai f Z ad (Ao (Ag (Af (Ab f Z λa f=>Ab f Z λa f=>AS underlying75 f Z Z h1 λa f=>Ab f Z λa f=>AS underlying39 f Z Z h0 λa f=>Ah f Z Z AT λa f=>Bd hd λae af hd=>Ei T75 f Z Z h1 (.inr ⟨_,_,Z,Z⟩) (.inl ⟨Z,Z⟩) af λag a ah f=>AS underlying75 f Z Z ah λa f=>Ab f Z λa f=>Aa (Bd hd λai aj hd=> ?_)))))
   refine AH (λa w=>∃q_259':Unit,ai= .inl q_259'∧∃(ak:GH),GLe aa ak∧Fr a 60 []∧Mem W ak w (H)) ?_ ?_
   ·refine Al (AE (λal a w=>∃am:Int,am=al∧∃(an:GH),GLe aa an∧Fr a 60 [(0,v0),(2,v2),(25,ag),(26,(iv (ae.length:Int))),(27,iv am)]∧Mem W an w (H)) aj ⟨_,Z,_,gr,f.k Z,m⟩ ?_)
    clear aj f m
    rintro al ao ap aq a w ⟨am,rfl,an,ar,f,m⟩
    refine have h0:=rd1 ar h0;have h2:=rd1 ar h2;have ah:=rd1 ar ah;Af (Ah f Z Z AJ λa f=>Aa (Ag ?_))
    rcases Ae ap with⟨au,ap⟩|⟨au,ap⟩
    ·refine An f Z au (Ao (Ag (Al (Af (Ab f Z λa f=>Bd ap λav aw ap=>Bt T75 f Z Z Z ah aw λax ay a az aA f=> ?_)))))
     subst aA
     refine AL m Pl3 f Z Z az λa f=>Ac f Z λa f=>Ac f Z λa f=>Aa (Ag (A8 27 AR (by kernel_rfl) m (Am 0 27 Z f Z λa f=>Am 1 27 Z f Z λa f=>Bd ap λaB aC ap=>B1 2 27 T39 h0 aC Z f Z Z λaD aE a aF aG f=> ?_)))
     subst aG
     refine BR 3 27 Pl2 aF Z f Z λa f=>Am 4 27 Z f Z λa f=>q_p 5 27 Z f (λ_=>AP (f.e Z) (f.e Z) BN) λa f=>Am 6 27 Z f Z λa f=>Bd ap λaH aI ap=>BQ (fuel':=0) (listed':= #[true,true,true,true,true,true,true,true,true,true,true,true,true,true,true,true,true,true,true,true,true,true,true,true,true,true,true]) (λa=>Fr a 60 [(0,v0),(2,v2),(7,iv am),(8,iv av),(25,ag),(26,(iv (ae.length:Int))),(27,iv am),(32,v0),(33,iv am),(34,aD),(35,iv aB),(36,iv av),(37,(.bool (aB !=av))),(38,(.bool (aB !=av))),(58,(.bool aH))]) ?_ ?_
     ·intro a f
      refine A4 λaJ w aK m=>Aa ?_
      rcases Ae ap with⟨aL,ap⟩|⟨aL,ap⟩
      ·refine An f Z aL (Af (Ac f Z λa f=>Aa (Aq ?_)))
       obtain rfl:=sj ap
       obtain rfl:=aq _ rfl
       obtain rfl:=sj hd
       exact⟨[(.bool false)],f.g Z,f.d,_,[],(gt ac (gt ar aK)),m,Z,Z⟩
      ·refine Ai f Z aL (Ao (Ak (Ah f Z Z Ax λa f=>Ab f Z λa f=>Aa ?_)))
       obtain rfl:=sj ap
       exact⟨_,Z,_,Z,_,(gt ar aK),f.k Z,m⟩
     ·intro aM
      rcases Ae aI with⟨aN,aI⟩|⟨aN,aI⟩
      ·refine Ap 7 27 Z f aN λa f=>Ap 8 27 Z f aN λa f=>Ap 9 27 Z f aN λa f=>B7 10 27 Z f λa f=>B7 11 27 Z f λa f=>B7 12 27 Z f λa f=>B7 13 27 Z f λa f=>B7 14 27 Z f λa f=>B7 15 27 Z f λa f=>B7 16 27 Z f λa f=>B7 17 27 Z f λa f=>B7 18 27 Z f λa f=>B7 19 27 Z f λa f=>B7 20 27 Z f λa f=>B7 21 27 Z f λa f=>B7 22 27 Z f λa f=>B7 23 27 Z f λa f=>B7 24 27 Z f λa f=>Ap 25 27 Z f aN λa f=>q_p 26 27 Z f (λ_=>AD (f.e Z) aN (f.e Z)) λa f=> ?_
       obtain rfl:=sj aI
       exact aM _ (f.k Z)
      ·refine Am (hw:=wo f aN) 7 27 Z f Z λa f=>q_p (hw:=wo f aN) 8 27 Z f (λ_=>AP (f.e Z) (f.e Z) BX) λa f=>Am (hw:=wo f aN) 9 27 Z f Z λa f=>Bd aI λaO aP aI=>BQ (fuel':=1) (listed':= #[true,true,true,true,true,true,true,true,true,true,true,true,true,true,true,true,true,true,true,true,true,true,true,true,true,true,false]) (λa=>Fr a 60 [(0,v0),(2,v2),(7,iv am),(8,iv av),(25,ag),(26,(iv (ae.length:Int))),(27,iv am),(32,v0),(33,iv am),(34,aD),(35,iv aB),(36,iv av),(37,(.bool (aB !=av))),(38,(.bool (aB !=av))),(39,iv am),(40,(.bool (decide ((0:Int)<am)))),(41,(.bool (decide ((0:Int)<am)))),(57,(.bool aO))]) ?_ ?_
       ·intro a f
        refine q_p 26 27 Z f (λ_=>AC (f.e Z) aN (f.e Z)) λa f=> ?_
        obtain rfl:=sj aI
        exact aM _ (f.k Z)
       ·intro aQ
        rcases Ae aP with⟨aR,aP⟩|⟨aR,aP⟩
        ·refine Am (hw:=wo f aR) 10 27 Z f Z λa f=>Am (hw:=wo f aR) 11 27 Z f Z λa f=>Am (hw:=wo f aR) 12 27 Z f Z λa f=>q_p (hw:=wo f aR) 13 27 Z f (λ_=>AP (f.e Z) (f.e Z) AT) λa f=>Bd aP λaS aT aP=>B1 (hw:=wo f aR) 14 27 T39 h0 aT Z f Z Z λaU aV a aW aX f=> ?_
         subst aX
         refine BR (hw:=wo f aR) 15 27 Pl2 aW Z f Z λa f=>Bd aP λaY aZ aP=>B1 (hw:=wo f aR) 16 27 T52 h2 aZ Z f Z Z λa0 a1 a a2 a3 f=> ?_
         subst a3
         refine BR (hw:=wo f aR) 17 27 A7 a2 Z f Z λa f=>Bd aP λa4 a5 aP=>BZ (i:=18) 27 Z (by kernel_rfl) Z f (AV f Z Z Z aR) Z Z call49 (λ_ _ w a6 m=>Wk.e hW m a5) λa f=>Am (hw:=wo f aR) 19 27 Z f Z λa f=>Am (hw:=wo f aR) 20 27 Z f Z λa f=>Bd aP λa7 a8 aP=>B1 (hw:=wo f aR) 21 27 T52 h2 a8 Z f Z Z λa9 ba a bb bc f=> ?_
         subst bc
         refine BR (hw:=wo f aR) 22 27 A7 bb Z f Z λa f=>Bd aP λbd be aP=>BZ (i:=23) 27 Z (by kernel_rfl) Z f (AV f Z Z Z aR) Z Z call49 (λ_ _ w bf m=>Wk.e hW m be) λa f=>q_p (hw:=wo f aR) 24 27 Z f (λ_=>AP (f.e Z) (f.e Z) BX) λa f=>q_p (hw:=wo f aN) 25 27 Z f (λ_=>AD (f.e Z) aR (f.e Z)) λa f=> ?_
         obtain rfl:=sj aP
         exact aQ _ (f.k Z)
        ·refine Ap 10 27 Z f aR λa f=>Ap 11 27 Z f aR λa f=>Ap 12 27 Z f aR λa f=>Ap 13 27 Z f aR λa f=>Ap 14 27 Z f aR λa f=>Ap 15 27 Z f aR λa f=>Ap 16 27 Z f aR λa f=>Ap 17 27 Z f aR λa f=>Ap 18 27 Z f aR λa f=>Ap 19 27 Z f aR λa f=>Ap 20 27 Z f aR λa f=>Ap 21 27 Z f aR λa f=>Ap 22 27 Z f aR λa f=>Ap 23 27 Z f aR λa f=>Ap 24 27 Z f aR λa f=>q_p (hw:=wo f aN) 25 27 Z f (λ_=>AC (f.e Z) aR (f.e Z)) λa f=> ?_
         obtain rfl:=sj aP
         exact aQ _ (f.k Z)
    ·refine Ai f Z au (AB Z ?_)
     obtain rfl:=sj ap
     obtain rfl:=aq _ rfl
     exact⟨_,Z,_,ar,f.weak trivial,m⟩
   ·rintro a w ⟨_,rfl,ak,bg,f,m⟩
    refine Af (Ac f Z λa f=>Aa (Aq ?_))
    obtain rfl:=sj hd
    exact⟨[(.bool true)],f.g Z,f.d,_,[],(gt ac bg),m,Z,Z⟩
theorem Wk.Y {v0:Value}{x0:(List (Int×Int×LI))}(hW:BD W)(m:Mem W G w (H))(h0:RPt G v0 x0){y:(LI)×Bool}(hd:D.Y x0=some y):
  Calls prog 44 #[v0] w (Res W G H (λG' Ho v=>∃r0:Value,∃i0:Itm,Ho=[i0]∧v= .tuple #[r0,(.bool y.2)]∧Ow (RI .u32) 58 G' i0 r0 y.1)):=by
 refine Aw (args:=[v0]) (N:=106) [.tmp 2,.tmp 3] func44 Z Z (lb Z) Z λa f=> ?_
 unfold D.Y at hd
 refine Af (Ac f Z λa f=>Ac f Z λa f=>Az (AX (R:=R0) (xs:=([]:LI)) (RI.one _) m T75 f Z Z Z (by decide) (All2.nil _) λaa ab w a m ac f=>AX (R:=(RI .u32)) (xs:=([]:LI)) (RI.one _) m T52 f Z Z Z (by decide) (All2.nil _) λad ae w a m af f=>Ac f Z λa f=>Ac f Z λa f=>Aa (Ag (Af (Ab f Z λa f=>Dl underlying33 f Z Z h0 λa f=>Ab f Z λa f=>Aa (Bd hd λag ah hd=> ?_))))))
 refine AH (λa w=>∃q_471':LI×LI,ag= .inl q_471'∧∃ai:LI,∃aj:LI,(ai,aj)=q_471'∧∃(ak:GH) (al:Value) (am:Itm) (an:Value) (ao:Itm),GLe G ak∧Fr a 106 [(4,al),(5,an)]∧Mem W ak w (am::ao::H)∧Ow R0 3 ak am al ai∧Ow (RI .u32) 58 ak ao an aj) ?_ ?_
 ·refine Al (have m:=m.fr 1;AE (λap a w=>∃aq:LI,∃ar:LI,∃au:Int,(aq,ar,au)=ap∧∃(av:GH) (aw:Value) (ax:Itm) (ay:Value) (az:Itm),GLe G av∧Fr a 106 [(4,aw),(5,ay),(14,v0),(15,(iv (x0.length:Int))),(16,iv au)]∧Mem W av w (ax::az::H)∧Ow R0 3 av ax aw aq∧Ow (RI .u32) 58 av az ay ar) ah ⟨_,_,_,Z,_,ab,aa,ae,ad,gr,f.k Z,m,ac,af⟩ ?_)
  clear ah f m
  rintro ap aA aB aC a w ⟨aq,ar,au,rfl,av,aw,ax,ay,az,aD,f,m,aE,aF⟩
  refine have h0:=RPt.mono ptT _ _ _ _ aD h0;Af (Ah f Z Z AJ λa f=>Aa (Ag ?_))
  rcases Ae aB with⟨aG,aB⟩|⟨aG,aB⟩
  ·refine An f Z aG (Ao (Ag (Al (Af (Ab f Z λa f=>Bd aB λaH aI aB=>Cz T33 f Z Z Z h0 aI λaJ aK a aL aM f=>Er (E:=P3S) [iv aH.1,iv aH.2.1,(hdV aK)] m Ag42 f Z Z aL Z λa f=>Bj (cs:=[iv 0,iv 0,sn]) zeroValue42 m f Z Z λaN w a m f=>Ac f Z λa f=>AA 0 0 (ds:=[iv aH.1,iv aH.2.1,(hdV aK)]) m sizeOf42 f Z Z Z (Ay Z (Ay Z (Ay aM.one1 AQ))) Z (lb Z) Z λw m=>Az (Ac f Z λa f=>Aa (Ag (Af (Bn underlying42 Z sizeOf2 f Z λa f=>AI 0 0 m Pl2 f Z Z Z Z λa f=>Aa (Al (Af (Ah f Z Z Bf λa f=>Ac f Z λa f=>Aa ?_))))))))))))
   rcases Ae aB with⟨aO,aB⟩|⟨aO,aB⟩
   ·refine An f Z aO (Ag (Af (Bn underlying42 Z sizeOf2 f Z λa f=>AI 0 1 m Pl2 f Z Z Z Z λa f=>Bd aB λaP aQ aB=>A1 f Z call45 (Wk.y m aQ) λaR w aS m a f=>have h0:=RPt.mono ptT _ _ _ _ aS h0;have aM:=rd1 aS aM;have aE:=od1 aS aE;have aF:=od1 aS aF;l_o f (Bc (f.e Z)) λa f=>Ab f Z λa f=> ?_)))
    refine Bi 5 (λa w=>∃aT,GLe aR aT∧Mem W aT w (ib aN 42 [iv aH.1,iv aH.2.1,(hdV aK)]::ax::az::H)∧Fr a 106 [(4,aw),(5,ay),(6,iv au),(7,pb aN),(8,(.int .u32 0)),(14,v0),(15,(iv (x0.length:Int))),(16,iv au),(22,iv aH.1),(23,(.bool (aH.1==1))),(25,(.pointer (some ⟨aN,1,none⟩))),(26,iv aH.2.1),(27,(.bool aP)),(28,(.bool (!aP))),(29,(.bool (!aP))),(34,(.bool ((!aP)||(decide ((0:Int)<(aH.2.2.length:Int))))))]) ?_ ?_
    ·rcases Bool.eq_false_or_eq_true (!aP) with aU|aU
     ·exact Au f aU λa f=>Au f aU λa f=>Au f aU λa f=>Au f aU λa f=>l_o f (AD (f.e Z) aU (f.e Z)) λa f=>⟨_,gr,m,f.weak ⟨Z,Z,Z,Z,Z,Z,Z,Z,Z,Z,Z,Z,Z,Z,Z,by rw[aU];rfl,trivial⟩⟩
     ·exact As f aU (Bn underlying42 Z sizeOf39 f Z λa f=>As f aU (AI 0 2 m Bu f Z Z Z Z λa f=>As f aU (AS underlying39 f Z Z aM λa f=>As f aU (Ah f Z Z BX λa f=>l_o f (AC (f.e Z) aU (f.e Z)) λa f=>⟨_,gr,m,f.weak ⟨Z,Z,Z,Z,Z,Z,Z,Z,Z,Z,Z,Z,Z,Z,Z,by rw[aU];rfl,trivial⟩⟩))))
    ·rintro a w ⟨aT,aV,m,f⟩
     refine have h0:=RPt.mono ptT _ _ _ _ aV h0;have aE:=od1 aV aE;have aF:=od1 aV aF;Aa ?_
     rcases Ae aB with⟨aW,aB⟩|⟨aW,aB⟩
     ·refine An f Z aW (Af (Ac f Z λa f=>Ac f Z λa f=>Aa (Aq ?_)))
      obtain⟨aX,m,aY⟩:=Ow.nil (RI .u32) 58 m
      refine have m:=m.eraseAt 3;have m:=m.eraseAt 2;have m:=m.eraseAt 1;?_
      obtain rfl:=sj aB
      obtain rfl:=aC _ rfl
      obtain rfl:=sj hd
      exact⟨[sn,(.bool false)],⟨f.get _ _ Z,f.get _ _ Z,trivial⟩,f.d,_,[aX],(gt aD (gt aS aV)),m,_,_,Z,Z,aY⟩
     ·refine Ai f Z aW (Ao (Ak (Bn underlying42 Z sizeOf2 f Z λa f=>AI 0 1 m Pl2 f Z Z Z Z λa f=>Bd aB λaZ a0 aB=>A1 f Z call66 (Wk.c m a0) λa1 w a2 m a f=>have h0:=RPt.mono ptT _ _ _ _ a2 h0;have aE:=od1 a2 aE;have aF:=od1 a2 aF;Ac f Z λa f=>Aa (Ak (Ab f Z λa f=>Ab f Z λa f=>AX (R:=R0) (xs:=([au]:LI)) (RI.one _) m T75 f Z Z Z (by decide) (All2.cons Z (All2.nil _)) λa3 a4 w a m a5 f=>Bd aB λa6 a7 aB=>Be (RI.one _) 2 m aE Z T75 Z (by decide) f Z Z Z (Ow.src (j:=0) a5 m Z) a7 λa8 a9 w a m ba f=>Ab f Z λa f=>Ab f Z λa f=>AX (R:=(RI .u32)) (xs:=([aZ]:LI)) (RI.one _) m T52 f Z Z Z (by decide) (All2.cons Z (All2.nil _)) λbb bc w a m bd f=>Bd aB λbe bf aB=>Be (RI.one _) 4 m aF Z T52 Z (by decide) f Z Z Z (Ow.src (j:=0) bd m Z) bf λbg bh w a m bi f=>Ac f Z λa f=>Ac f Z λa f=>Aa (Ak (Ah f Z Z Ax λa f=> ?_)))))))
      refine Ab f Z λa f=>Aa (have m:=m.fr 4;have m:=m.fr 4;have m:=m.eraseAt 4;have m:Mem W a1 w (a8::bg::bb::H):=m.eraseAt 3;have m:=m.eraseAt 2;?_)
      obtain rfl:=sj aB
      exact⟨_,Z,_,_,_,Z,_,a9,a8,bh,bg,(gt aD (gt aS (gt aV a2))),f.k Z,m,ba,bi⟩
   ·refine Ai f Z aO (Ag (Af (Ah f Z Z Bf λa f=>Ac f Z λa f=>Aa (Bd aB λbj bk aB=> ?_))))
    refine AH (λa w=>∃bl:Bool,bl=bj∧∃(bm:GH),GLe av bm∧Fr a 106 [(4,aw),(5,ay),(6,iv au),(7,pb aN),(8,(.int .u32 0)),(14,v0),(15,(iv (x0.length:Int))),(16,iv au),(38,(.bool bl))]∧Mem W bm w (ib aN 42 [iv aH.1,iv aH.2.1,(hdV aK)]::ax::az::H)) ?_ ?_
    ·rcases Ae bk with⟨bn,bk⟩|⟨bn,bk⟩
     ·refine An f Z bn (Ao ?_)
      obtain rfl:=sj bk
      exact⟨_,Z,_,gr,f.k Z,m⟩
     ·refine Ai f Z bn (Af (Ah f Z Z Bf λa f=>Ac f Z λa f=>Aa ?_))
      rcases Ae bk with⟨bo,bk⟩|⟨bo,bk⟩
      ·refine An f Z bo (Ao ?_)
       obtain rfl:=sj bk
       exact⟨_,Z,_,gr,f.k Z,m⟩
      ·refine Ai f Z bo (Ak (Ah f Z Z Bf λa f=>Ac f Z λa f=>Aa ?_))
       obtain rfl:=sj bk
       exact⟨_,Z,_,gr,f.k Z,m⟩
    ·rintro a w ⟨bl,rfl,bm,bp,f,m⟩
     refine have h0:=RPt.mono ptT _ _ _ _ bp h0;have aM:=rd1 bp aM;have aE:=od1 bp aE;have aF:=od1 bp aF;?_
     rcases Ae aB with⟨bq,aB⟩|⟨bq,aB⟩
     ·refine An f Z bq (Ag (Af (Bn underlying42 Z sizeOf2 f Z λa f=>AI 0 1 m Pl2 f Z Z Z Z λa f=>Ah f Z Z BN λa f=>Ab f Z λa f=>Bd aB λbr bs aB=> ?_)))
      refine Bi 7 (λa w=>∃bt,GLe bm bt∧Mem W bt w (ib aN 42 [iv aH.1,iv aH.2.1,(hdV aK)]::ax::az::H)∧Fr a 106 [(4,aw),(5,ay),(6,iv au),(7,pb aN),(8,(.int .u32 0)),(14,v0),(15,(iv (x0.length:Int))),(16,iv au),(38,(.bool bl)),(42,(.pointer (some ⟨aN,1,none⟩))),(43,iv aH.2.1),(44,(.bool (aH.2.1 !=0))),(45,(.bool (aH.2.1 !=0))),(52,(.bool br))]) ?_ ?_
      ·rcases Ae bs with⟨bu,bs⟩|⟨bu,bs⟩
       ·refine Au f bu λa f=>Au f bu λa f=>Au f bu λa f=>Au f bu λa f=>Au f bu λa f=>Au f bu λa f=>l_o f (AD (f.e Z) bu (f.e Z)) λa f=> ?_
        obtain rfl:=sj bs
        exact⟨_,gr,m,f.k Z⟩
       ·refine As f bu (Bn underlying42 Z sizeOf39 f Z λa f=>As f bu (AI 0 2 m Bu f Z Z Z Z λa f=>As f bu (Ab f Z λa f=>As f bu (Ab f Z λa f=>As f bu (Bd bs λbv bw bs=>AZ f Z call81 (Ow.lendCall (RI.mono _) 1 aE m Z (λbx bz m bA=>(Ow.lendCall (RI.mono _) 1 (od1 bz aF) m Z (λbB bC m bD=>Wk.r0 hW m (rd1 bC (rd1 bz aM)) (rd1 bC bA) bD bw) (λ_ _ _ _ h=>h))) (λ_ _ _ _ h=>h)) λbE bF bG w bH m bI a f=> ?_)))))
        obtain⟨rfl,rfl⟩:=bI
        refine have h0:=RPt.mono ptT _ _ _ _ bH h0;As f bu (l_o f (Bc (f.e Z)) λa f=>l_o f (AC (f.e Z) bu (f.e Z)) λa f=> ?_)
        obtain rfl:=sj bs
        exact⟨_,bH,m,f.k Z⟩
      ·rintro a w ⟨bt,bJ,m,f⟩
       refine have h0:=RPt.mono ptT _ _ _ _ bJ h0;have aM:=rd1 bJ aM;have aE:=od1 bJ aE;have aF:=od1 bJ aF;Aa ?_
       rcases Ae aB with⟨bK,aB⟩|⟨bK,aB⟩
       ·refine An f Z bK (Af (Ac f Z λa f=>Ac f Z λa f=>Aa (Aq ?_)))
        obtain⟨bL,m,bM⟩:=Ow.nil (RI .u32) 58 m
        refine have m:=m.eraseAt 3;have m:=m.eraseAt 2;have m:=m.eraseAt 1;?_
        obtain rfl:=sj aB
        obtain rfl:=aC _ rfl
        obtain rfl:=sj hd
        exact⟨[sn,(.bool false)],⟨f.get _ _ Z,f.get _ _ Z,trivial⟩,f.d,_,[bL],(gt aD (gt bp bJ)),m,_,_,Z,Z,bM⟩
       ·refine Ai f Z bK (Ao (Ag (Af (Bn underlying42 Z sizeOf39 f Z λa f=>AI 0 2 m Bu f Z Z Z Z λa f=>AS underlying39 f Z Z aM λa f=>Ab f Z λa f=>Aa (Bd aB λbN bO aB=> ?_)))))
        refine AH (λa w=>∃q_879':Int,bN= .inl q_879'∧∃bP:Int,bP=q_879'∧∃(bQ:GH),GLe bt bQ∧Fr a 106 [(4,aw),(5,ay),(6,iv au),(7,pb aN),(8,(.int .u32 bP)),(14,v0),(15,(iv (x0.length:Int))),(16,iv au)]∧Mem W bQ w (ib aN 42 [iv aH.1,iv aH.2.1,(hdV aK)]::ax::az::H)) ?_ ?_
        ·refine Al (AE (λbR a w=>∃bS:Int,∃bT:Int,(bS,bT)=bR∧∃(bU:GH),GLe bt bU∧Fr a 106 [(4,aw),(5,ay),(6,iv au),(7,pb aN),(8,(.int .u32 bS)),(14,v0),(15,(iv (x0.length:Int))),(16,iv au),(54,(hdV aK)),(55,(iv (aH.2.2.length:Int))),(56,iv bT)]∧Mem W bU w (ib aN 42 [iv aH.1,iv aH.2.1,(hdV aK)]::ax::az::H)) bO ⟨_,_,Z,_,gr,f.k Z,m⟩ ?_)
         clear bO f m
         rintro bR bV bW bX a w ⟨bS,bT,rfl,bU,bY,f,m⟩
         refine have h0:=RPt.mono ptT _ _ _ _ bY h0;have aM:=rd1 bY aM;have aF:=od1 bY aF;Af (Ah f Z Z AJ λa f=>Aa (Ag ?_))
         rcases Ae bW with⟨bZ,bW⟩|⟨bZ,bW⟩
         ·refine An f Z bZ (Ao (Ag (Al (Af (Bd bW λb0 b1 bW=>Bt T39 f Z Z Z aM b1 λb2 b3 a b4 b5 f=> ?_)))))
          subst b5
          refine AL m Pl2 f Z Z b4 λa f=>Ac f Z λa f=>Aa (Ag (Af (Ab f Z λa f=>Ab f Z λa f=>Ab f Z λa f=>Bd bW λb6 b7 bW=>Bq 2 m aF Z T52 f Z Z Z b7 λb8 a b9 f=>B2 2 m aF Z A7 f Z Z b9 b7 λca a cb f=> ?_)))
          subst cb
          refine Ah f Z Z CY λa f=>Ah f Z Z BN λa f=>Aa ?_
          rcases Ae bW with⟨cc,bW⟩|⟨cc,bW⟩
          ·refine An f Z cc (Af (Ac f Z λa f=>Ac f Z λa f=>Aa (Aq ?_)))
           obtain⟨cd,m,ce⟩:=Ow.nil (RI .u32) 58 m
           refine have m:=m.eraseAt 3;have m:=m.eraseAt 2;have m:=m.eraseAt 1;?_
           obtain rfl:=sj bW
           obtain rfl:=bX _ rfl
           obtain rfl:=sj aB
           obtain rfl:=aC _ rfl
           obtain rfl:=sj hd
           exact⟨[sn,(.bool false)],⟨f.get _ _ Z,f.get _ _ Z,trivial⟩,f.d,_,[cd],(gt aD (gt bp (gt bJ bY))),m,_,_,Z,Z,ce⟩
          ·refine Ai f Z cc (Ao (Ak (Ab f Z λa f=>Ab f Z λa f=>Ab f Z λa f=>Bd bW λcf cg bW=>Bq 2 m aF Z T52 f Z Z Z cg λch a ci f=>B2 2 m aF Z A7 f Z Z ci cg λcj a ck f=> ?_)))
           subst ck
           refine Ah f Z Z b_or λa f=>Ac f Z λa f=>Aa (Ak (Ah f Z Z Ax λa f=>Ab f Z λa f=>Aa ?_))
           obtain rfl:=sj bW
           exact⟨_,Z,_,_,Z,_,bY,f.k Z,m⟩
         ·refine Ai f Z bZ (AB Z ?_)
          obtain rfl:=sj bW
          obtain rfl:=bX _ rfl
          exact⟨_,Z,_,Z,_,bY,f.k Z,m⟩
        ·rintro a w ⟨_,rfl,bP,rfl,bQ,cl,f,m⟩
         refine have h0:=RPt.mono ptT _ _ _ _ cl h0;have aM:=rd1 cl aM;have aE:=od1 cl aE;have aF:=od1 cl aF;Ak (Ab f Z λa f=>Ab f Z λa f=>Bz 1 m aE Z underlying75 f Z Z λa f=>Bn underlying42 Z sizeOf39 f Z λa f=>AI 0 2 m Bu f Z Z Z Z λa f=>AS underlying39 f Z Z aM λa f=>Ah f Z Z AT λa f=>Bd aB λcm cn aB=>l_own_cut 1 m aE Z T75 f Z Z (.inl Z) Z cn λco cp a m cq f=>Ac f Z λa f=>Aa (Ak (Ab f Z λa f=>Ab f Z λa f=>AX (R:=R0) (xs:=([au]:LI)) (RI.one _) m T75 f Z Z Z (by decide) (All2.cons Z (All2.nil _)) λcr ct w a m cu f=>Bd aB λcv cw aB=>Be (RI.one _) 2 m cq Z T75 Z (by decide) f Z Z Z (Ow.src (j:=0) cu m Z) cw λcx cy w a m cz f=>Ab f Z λa f=>Ab f Z λa f=>AX (R:=(RI .u32)) (xs:=([bP]:LI)) (RI.one _) m T52 f Z Z Z (by decide) (All2.cons Z (All2.nil _)) λcA cB w a m cC f=>Bd aB λcD cE aB=> ?_)))
         refine Be (RI.one _) 4 m aF Z T52 Z (by decide) f Z Z Z (Ow.src (j:=0) cC m Z) cE λcF cG w a m cH f=>Ac f Z λa f=>Ac f Z λa f=>Aa (Ak (Ah f Z Z Ax λa f=>Ab f Z λa f=>Aa (have m:=m.fr 4;have m:=m.fr 4;have m:=m.eraseAt 4;have m:Mem W bQ w (cx::cF::cA::H):=m.eraseAt 3;have m:=m.eraseAt 2;?_)))
         obtain rfl:=sj aB
         exact⟨_,Z,_,_,_,Z,_,cy,cx,cG,cF,(gt aD (gt bp (gt bJ cl))),f.k Z,m,cz,cH⟩
     ·refine Ai f Z bq (Af (Ac f Z λa f=>Ac f Z λa f=>Aa (Aq ?_)))
      obtain⟨cI,m,cJ⟩:=Ow.nil (RI .u32) 58 m
      refine have m:=m.eraseAt 3;have m:=m.eraseAt 2;have m:=m.eraseAt 1;?_
      obtain rfl:=sj aB
      obtain rfl:=aC _ rfl
      obtain rfl:=sj hd
      exact⟨[sn,(.bool false)],⟨f.get _ _ Z,f.get _ _ Z,trivial⟩,f.d,_,[cI],(gt aD bp),m,_,_,Z,Z,cJ⟩
  ·refine Ai f Z aG (AB Z ?_)
   obtain rfl:=sj aB
   obtain rfl:=aC _ rfl
   exact⟨_,Z,_,_,Z,_,aw,ax,ay,az,aD,f.k Z,m,aE,aF⟩
 ·rintro a w ⟨_,rfl,ai,aj,rfl,ak,al,am,an,ao,cK,f,m,cL,cM⟩
  refine Ag (Af (Ab f Z λa f=>Bz 0 m cL Z underlying75 f Z Z λa f=>Ah f Z Z BN λa f=>Aa ?_))
  rcases Ae hd with⟨cN,hd⟩|⟨cN,hd⟩
  ·refine An f Z cN (Af (Ac f Z λa f=>Ac f Z λa f=>Aa (Aq ?_)))
   obtain⟨cO,m,cP⟩:=Ow.nil (RI .u32) 58 m
   refine have m:=m.eraseAt 2;have m:=m.eraseAt 1;?_
   obtain rfl:=sj hd
   exact⟨[sn,(.bool false)],⟨f.get _ _ Z,f.get _ _ Z,trivial⟩,f.d,_,[cO],cK,m,_,_,Z,Z,cP⟩
  ·refine Ai f Z cN (Ao (Af (Ab f Z λa f=>Ab f Z λa f=>Bz 1 m cM Z underlying52 f Z Z λa f=>Ah f Z Z AT λa f=>Bd hd λcQ cR hd=>Bq 1 m cM Z T52 f Z Z Z cR λcS a cT f=>B2 1 m cM Z A7 f Z Z cT cR λcU a cV f=> ?_)))
   subst cV
   refine Ac f Z λa f=>Az (Ab f Z λa f=>Ab f Z λa f=>Ab f Z λa f=>Bd hd λcW cX hd=>A1 f Z call48 (Wk.k m cX) λcY w cZ m a f=>have cM:=od1 cZ cM;Bd hd λc0 c1 hd=>A1 f Z call67 (Wk.R m c1) λc2 w c3 m a f=>have cM:=od1 c3 cM;Ah f Z Z Bf λa f=>Ac f Z λa f=>Ac f Z λa f=>Aa (Aq (have m:=m.fr 1;have m:=m.eraseAt 1;?_)))
   obtain rfl:=sj hd
   exact⟨[an,(.bool (cQ==c0))],⟨f.get _ _ Z,f.get _ _ Z,trivial⟩,f.d,_,[ao],(gt cK (gt cZ c3)),m,_,_,Z,Z,cM⟩
theorem Wk.K0 {v0:Value}{x0:LI}(m:Mem W G w (H))(h0:R1 G v0 x0){y:(LI)}(hd:D.K0 x0=some y):
  Calls prog 82 #[v0] w (Res W G H (λG' Ho v=>∃r0:Value,∃i0:Itm,Ho=[i0]∧r0=v∧Ow R0 2 G' i0 r0 y)):=by
 refine Aw (args:=[v0]) (N:=21) [.tmp 2] func82 Z Z (lb Z) Z λa f=> ?_
 unfold D.K0 at hd
 refine Af (Ac f Z λa f=>Az (Ab f Z λa f=>AS underlying75 f Z Z h0 λa f=>Bd hd λaa ab hd=>l_make (R:=R0) m T39 Z (by decide) Z f Z Z Z ab λac ad w a m ae f=>Ac f Z λa f=>Aa (Ag (Af (Ab f Z λa f=>AS underlying75 f Z Z h0 λa f=>Ab f Z λa f=>Aa (Bd hd λaf ag hd=> ?_))))))
 refine AH (λa w=>∃ah:LI,ah=af∧∃(ai:GH) (aj:Value) (ak:Itm),GLe G ai∧Fr a 21 [(3,aj)]∧Mem W ai w (ak::H)∧Ow R0 2 ai ak aj ah) ?_ ?_
 ·refine Al (AE (λal a w=>∃am:LI,∃an:Int,(am,an)=al∧∃(ao:GH) (ap:Value) (aq:Itm),GLe G ao∧Fr a 21 [(3,ap),(9,v0),(10,(iv (x0.length:Int))),(11,iv an)]∧Mem W ao w (aq::H)∧Ow R0 2 ao aq ap am) ag ⟨_,_,Z,_,ad,ac,gr,f.k Z,m,ae⟩ ?_)
  clear ag f m
  rintro al ar au av a w ⟨am,an,rfl,ao,ap,aq,aw,f,m,ax⟩
  refine have h0:=rd1 aw h0;Af (Ah f Z Z AJ λa f=>Aa (Ag ?_))
  rcases Ae au with⟨ay,au⟩|⟨ay,au⟩
  ·refine An f Z ay (Ao (Ag (Al (Af (Bd au λaz aA au=>Bt T75 f Z Z Z h0 aA λaB aC a aD aE f=> ?_)))))
   subst aE
   refine AL m Pl3 f Z Z aD λa f=>Ac f Z λa f=>Aa (Ak (Ab f Z λa f=>Ab f Z λa f=>AX (R:=R0) (xs:=([az]:LI)) (RI.one _) m T39 f Z Z Z (by decide) (All2.cons Z (All2.nil _)) λaF aG w a m aH f=>Bd au λaI aJ au=>Be (RI.one _) 1 m ax Z T39 Z (by decide) f Z Z Z (Ow.src (j:=0) aH m Z) aJ λaK aL w a m aM f=>Ac f Z λa f=>Aa (Ak (Ah f Z Z Ax λa f=>Ab f Z λa f=>Aa (have m:=m.fr 1;have m:=m.eraseAt 1;?_)))))
   obtain rfl:=sj au
   exact⟨_,Z,_,_,Z,_,aL,aK,aw,f.k Z,m,aM⟩
  ·refine Ai f Z ay (AB Z ?_)
   obtain rfl:=sj au
   obtain rfl:=av _ rfl
   exact⟨_,Z,_,ap,aq,aw,f.k Z,m,ax⟩
 ·rintro a w ⟨ah,rfl,ai,aj,ak,aN,f,m,aO⟩
  refine Af (Ab f Z λa f=>Ac f Z λa f=>Aa (Aq ?_))
  obtain rfl:=sj hd
  exact⟨[aj],f.g Z,f.d,_,[ak],aN,m,_,_,Z,Z,aO⟩
theorem Wk.f0 {x0:Int}(hW:BD W)(m:Mem W G w (H)){y:(LI)}(hd:D.f0 x0=some y):
  Calls prog 46 #[(.int .u32 x0)] w (Res W G H (λG' Ho v=>∃r0:Value,∃i0:Itm,Ho=[i0]∧r0=v∧Ow R0 2 G' i0 r0 y)):=by
 refine Aw (args:=[(.int .u32 x0)]) (N:=6) [.tmp 2] func46 Z Z (lb Z) Z λa f=> ?_
 unfold D.f0 at hd
 refine Af (Ac f Z λa f=>Az (Ab f Z λa f=>Bd hd λaa ab hd=>BS f Z call83 (Wk.i hW m ab) λac ad ae w af m ag a f=>Bd hd λah ai hd=>BS f Z call82 (Ow.lendCall (RI.mono _) 0 ag m Z (λaj ak m al=>Wk.K0 m al ai) (λ_ G' _ _ ⟨a0,a1,e1,e2,o0⟩=>⟨a0,a1,e1,e2,Ow.free (RI.free _) G' o0⟩)) λam an ao w ap m aq a f=>Ac f Z λa f=>Aa (Aq (have m:=m.eraseAt 1;?_))))
 obtain rfl:=sj hd
 exact⟨[am],f.g Z,f.d,_,[an],(gt af ap),m,_,_,Z,Z,aq⟩
theorem Wk.c1 {v0:Value}{x0:(List (Int×Int×LI))}{x1:Int}(hW:BD W)(m:Mem W G w (H))(h0:RPt G v0 x0){y:(LI)}(hd:D.c1 x0 x1=some y):
  Calls prog 14 #[v0,iv x1] w (Res W G H (λG' Ho v=>∃r0:Value,∃i0:Itm,Ho=[i0]∧r0=v∧Ow R0 2 G' i0 r0 y)):=by
 refine Aw (args:=[v0,iv x1]) (N:=27) [.tmp 4] func14 Z Z (lb Z) Z λa f=> ?_
 unfold D.c1 at hd
 refine Af (Ac f Z λa f=>Az (Ab f Z λa f=>Bd hd λaa ab hd=>AZ f Z call44 (Wk.Y hW m h0 ab) λac ad ae w af m ag a f=> ?_))
 obtain⟨ah,ai,rfl,rfl,aj⟩:=ag
 refine have h0:=RPt.mono ptT _ _ _ _ af h0;Ab f Z λa f=>l_o f (A2 (f.e Z) Z) λa f=>l_o f (A2 (f.e Z) Z) λa f=>Ac f Z λa f=>Ac f Z λa f=>Aa (Ag (Af (Ab f Z λa f=>l_o f (Bc (f.e Z)) λa f=>Ab f Z λa f=>Bd hd λak al hd=> ?_)))
 refine Bi 7 (λa w=>∃am,GLe ad am∧Mem W am w (ai::H)∧Fr a 27 [(0,v0),(1,iv x1),(5,ah),(6,(.bool aa.2)),(12,(.bool aa.2)),(13,(.bool (!aa.2))),(14,(.bool (!aa.2))),(21,(.bool ak))]) ?_ ?_
 ·rcases Ae al with⟨an,al⟩|⟨an,al⟩
  ·refine Au f an λa f=>Au f an λa f=>Au f an λa f=>Au f an λa f=>Au f an λa f=>Au f an λa f=>l_o f (AD (f.e Z) an (f.e Z)) λa f=> ?_
   obtain rfl:=sj al
   exact⟨_,gr,m,f.k Z⟩
  ·refine As f an (Ab f Z λa f=>As f an (Ab f Z λa f=>As f an (Dl underlying33 f Z Z h0 λa f=>As f an (Ah f Z Z AT λa f=>As f an (Bd al λao ap al=>A1 f Z call45 (Wk.y m ap) λaq w ar m a f=>have h0:=RPt.mono ptT _ _ _ _ ar h0;As f an (l_o f (Bc (f.e Z)) λa f=>l_o f (AC (f.e Z) an (f.e Z)) λa f=> ?_))))))
   obtain rfl:=sj al
   exact⟨_,ar,m,f.k Z⟩
 ·rintro a w ⟨am,au,m,f⟩
  refine have h0:=RPt.mono ptT _ _ _ _ au h0;have aj:=od1 au aj;Aa ?_
  rcases Ae hd with⟨av,hd⟩|⟨av,hd⟩
  ·refine An f Z av (Af (Ac f Z λa f=>Aa (Aq ?_)))
   obtain⟨aw,m,ax⟩:=Ow.nil R0 2 m
   have m:=m.eraseAt 1
   obtain rfl:=sj hd
   exact⟨[sn],f.g Z,f.d,_,[aw],(gt af au),m,_,_,Z,Z,ax⟩
  ·refine Ai f Z av (Ao (Af (Ab f Z λa f=>Ab f Z λa f=>Bd hd λay az hd=>Bq 0 m aj Z T52 f Z Z Z az λaA a aB f=>B2 0 m aj Z A7 f Z Z aB az λaC a aD f=> ?_)))
   subst aD
   refine Bd hd λaE aF hd=>BS f Z call46 (Wk.f0 hW m aF) λaG aH aI w aJ m aK a f=>have h0:=RPt.mono ptT _ _ _ _ aJ h0;Ac f Z λa f=>Aa (Aq (have m:=m.eraseAt 1;?_))
   obtain rfl:=sj hd
   exact⟨[aG],f.g Z,f.d,_,[aH],(gt af (gt au aJ)),m,_,_,Z,Z,aK⟩
theorem Wk.S0 {v0 v1:Value}{x0 x1:LI}(m:Mem W G w (H))(h0:R1 G v0 x0)(h1:R1 G v1 x1){y:Bool}(hd:D.S0 x0 x1=some y):
  Calls prog 47 #[v0,v1] w (Res W G H (λ_ Ho v=>Ho=[]∧v=(.bool y))):=by
 refine Aw (args:=[v0,v1]) (N:=35) [.tmp 4] func47 Z Z (lb Z) Z λa f=> ?_
 unfold D.S0 at hd
 refine Af (Ac f Z λa f=>Az (Ac f Z λa f=>Aa (Ag (Af (Ac f Z λa f=>Aa (Bd hd λaa ab hd=> ?_))))))
 refine AH (λa w=>∃ac:Int,ac=aa∧∃(ad:GH),GLe G ad∧Fr a 35 [(0,v0),(1,v1),(5,iv ac)]∧Mem W ad w (H)) ?_ ?_
 ·refine Al (AE (λae a w=>∃af:Int,∃ag:Int,(af,ag)=ae∧∃(ah:GH),GLe G ah∧Fr a 35 [(0,v0),(1,v1),(5,iv af),(6,iv ag)]∧Mem W ah w (H)) ab ⟨_,_,Z,_,gr,f.k Z,m⟩ ?_)
  clear ab f m
  rintro ae ai aj ak a w ⟨af,ag,rfl,ah,al,f,m⟩
  refine have h0:=rd1 al h0;have h1:=rd1 al h1;Ag (Af (Ab f Z λa f=>Ab f Z λa f=>AS underlying39 f Z Z h0 λa f=>Ah f Z Z AJ λa f=>Aa ?_))
  rcases Ae aj with⟨am,aj⟩|⟨am,aj⟩
  ·refine An f Z am (Ao (Ag (Al (Af (Ab f Z λa f=>Ab f Z λa f=>Ab f Z λa f=>Bd aj λan ao aj=>Bt T39 f Z Z Z h0 ao λap aq a ar au f=> ?_)))))
   subst au
   refine AL m Pl2 f Z Z ar λa f=>Bd aj λav aw aj=>A1 f Z call74 (Wk.d m h1 aw) λax w ay m a f=>Aa ?_
   rcases Ae aj with⟨az,aj⟩|⟨az,aj⟩
   ·refine An f Z az (Ak (Ab f Z λa f=>Ah f Z Z Ax λa f=>Ac f Z λa f=>Aa (Ak (Ab f Z λa f=>Ah f Z Z Ax λa f=>Ac f Z λa f=>Aa ?_))))
    obtain rfl:=sj aj
    exact⟨_,Z,_,_,Z,_,(gt al ay),f.k Z,m⟩
   ·refine Ai f Z az (Ao (Ak (Ab f Z λa f=>Ah f Z Z Ax λa f=>Ac f Z λa f=>Aa ?_)))
    obtain rfl:=sj aj
    exact⟨_,Z,_,_,Z,_,(gt al ay),f.k Z,m⟩
  ·refine Ai f Z am (AB Z ?_)
   obtain rfl:=sj aj
   obtain rfl:=ak _ rfl
   exact⟨_,Z,_,al,f.k Z,m⟩
 ·rintro a w ⟨ac,rfl,ad,aA,f,m⟩
  refine have h0:=rd1 aA h0;have h1:=rd1 aA h1;Af (Ab f Z λa f=>Ah f Z Z BX λa f=>Ab f Z λa f=> ?_)
  refine Bi 5 (λa w=>∃aB,GLe ad aB∧Mem W aB w (H)∧Fr a 35 [(0,v0),(1,v1),(5,iv ac),(21,iv ac),(22,(.bool (decide ((0:Int)<ac)))),(23,(.bool (decide ((0:Int)<ac)))),(28,(.bool ((decide ((0:Int)<ac))&&(decide (ac<(x0.length:Int))))))]) ?_ ?_
  ·rcases Bool.eq_false_or_eq_true (decide ((0:Int)<ac)) with aC|aC
   ·exact As f aC (Ab f Z λa f=>As f aC (Ab f Z λa f=>As f aC (AS underlying39 f Z Z h0 λa f=>As f aC (Ah f Z Z AJ λa f=>l_o f (AD (f.e Z) aC (f.e Z)) λa f=>⟨_,gr,m,f.weak ⟨Z,Z,Z,Z,Z,Z,by rw[aC];rfl,trivial⟩⟩))))
   ·exact Au f aC λa f=>Au f aC λa f=>Au f aC λa f=>Au f aC λa f=>l_o f (AC (f.e Z) aC (f.e Z)) λa f=>⟨_,gr,m,f.weak ⟨Z,Z,Z,Z,Z,Z,by rw[aC];rfl,trivial⟩⟩
  ·rintro a w ⟨aB,aD,m,f⟩
   refine have h1:=rd1 aD h1;Ab f Z λa f=> ?_
   refine Bi 5 (λa w=>∃aE,GLe aB aE∧Mem W aE w (H)∧Fr a 35 [(0,v0),(1,v1),(5,iv ac),(21,iv ac),(22,(.bool (decide ((0:Int)<ac)))),(23,(.bool (decide ((0:Int)<ac)))),(28,(.bool ((decide ((0:Int)<ac))&&(decide (ac<(x0.length:Int)))))),(29,(.bool ((decide ((0:Int)<ac))&&(decide (ac<(x0.length:Int)))))),(34,(.bool (((decide ((0:Int)<ac))&&(decide (ac<(x0.length:Int))))&&(decide (ac<(x1.length:Int))))))]) ?_ ?_
   ·rcases Bool.eq_false_or_eq_true ((decide ((0:Int)<ac))&&(decide (ac<(x0.length:Int)))) with aF|aF
    ·exact As f aF (Ab f Z λa f=>As f aF (Ab f Z λa f=>As f aF (AS underlying39 f Z Z h1 λa f=>As f aF (Ah f Z Z AJ λa f=>l_o f (AD (f.e Z) aF (f.e Z)) λa f=>⟨_,gr,m,f.weak ⟨Z,Z,Z,Z,Z,Z,Z,Z,by rw[aF];rfl,trivial⟩⟩))))
    ·exact Au f aF λa f=>Au f aF λa f=>Au f aF λa f=>Au f aF λa f=>l_o f (AC (f.e Z) aF (f.e Z)) λa f=>⟨_,gr,m,f.weak ⟨Z,Z,Z,Z,Z,Z,Z,Z,by rw[aF];rfl,trivial⟩⟩
   ·rintro a w ⟨aE,aG,m,f⟩
    refine Ac f Z λa f=>Aa (Aq ?_)
    obtain rfl:=sj hd
    exact⟨[(.bool (((decide ((0:Int)<ac))&&(decide (ac<(x0.length:Int))))&&(decide (ac<(x1.length:Int)))))],f.g Z,f.d,_,[],(gt aA (gt aD aG)),m,Z,Z⟩
theorem Wk.Y0 {aa v1:Value}{ab:LL}{x1:LI}(m:Mem W G w (H))(ac:R2 G aa ab)(h1:R1 G v1 x1){y:Bool}(hd:D.Y0 ab x1=some y):
  Calls prog 15 #[(.agg #[aa]),v1] w (Res W G H (λ_ Ho v=>Ho=[]∧v=(.bool y))):=by
 refine Aw (args:=[(.agg #[aa]),v1]) (N:=30) [.tmp 4] func15 Z Z (lb Z) Z λa f=> ?_
 unfold D.Y0 at hd
 refine Af (Bv (cs:=[aa]) m f Z Z Z λad w a m f=>Ac f Z λa f=>Az (AN 0 0 (ds:=[aa]) m AU f Z Z Z Z Z λa f=>Bd hd λae af hd=>BS f Z call12 (Wk.U m ac af) λag ah ai w aj m ak a f=>have ac:=rd2 aj ac;have h1:=rd1 aj h1;Ac f Z λa f=>Aa (Ag (Af (Ab f Z λa f=>Bz 0 m ak Z underlying27 f Z Z λa f=>Ah f Z Z Bf λa f=>Ab f Z λa f=>Bd hd λal am hd=> ?_)))))
 refine Bi 5 (λa w=>∃an,GLe ai an∧Mem W an w (ah::ib ad 29 [aa]::H)∧Fr a 30 [(0,(.agg #[aa])),(1,v1),(2,pb ad),(5,ag),(9,ag),(10,(iv (ae.length:Int))),(11,(.bool ((ae.length:Int)==0))),(12,(.bool ((ae.length:Int)==0))),(17,(.bool al))]) ?_ ?_
 ·rcases Ae am with⟨ao,am⟩|⟨ao,am⟩
  ·refine Au f ao λa f=>Au f ao λa f=>Au f ao λa f=>Au f ao λa f=>l_o f (AD (f.e Z) ao (f.e Z)) λa f=> ?_
   obtain rfl:=sj am
   exact⟨_,gr,m,f.k Z⟩
  ·refine As f ao (AN 1 0 (ds:=[aa]) m AU f Z Z Z Z Z λa f=>As f ao (Ab f Z λa f=>As f ao (Bd am λap aq am=>A1 f Z call28 (Wk.d0 m ac h1 aq) λar w au m a f=>As f ao (l_o f (Bc (f.e Z)) λa f=>l_o f (AC (f.e Z) ao (f.e Z)) λa f=> ?_))))
   obtain rfl:=sj am
   exact⟨_,au,m,f.k Z⟩
 ·rintro a w ⟨an,av,m,f⟩
  refine have h1:=rd1 av h1;have ak:=od3 av ak;Aa ?_
  rcases Ae hd with⟨aw,hd⟩|⟨aw,hd⟩
  ·refine An f Z aw (Af (Ac f Z λa f=>Aa (Aq (have m:=m.dp 2;?_))))
   obtain rfl:=sj hd
   exact⟨[(.bool false)],f.g Z,f.d,_,[],(gt aj av),m,Z,Z⟩
  ·refine Ai f Z aw (Ao (Ag (Af (Ac f Z λa f=>Aa (Bd hd λax ay hd=> ?_)))))
   refine AH (λa w=>∃q_73':Unit,ax= .inl q_73'∧∃(az:GH),GLe an az∧Fr a 30 []∧Mem W az w (H)) ?_ ?_
   ·refine Al (have m:=m.eraseAt 1;AE (λaA a w=>∃aB:Int,aB=aA∧∃(aC:GH),GLe an aC∧Fr a 30 [(1,v1),(5,ag),(6,iv aB)]∧Mem W aC w (ah::H)) ay ⟨_,Z,_,gr,f.k Z,m⟩ ?_)
    clear ay f m
    rintro aA aD aE aF a w ⟨aB,rfl,aC,aG,f,m⟩
    refine have h1:=rd1 aG h1;have ak:=od3 aG ak;Ag (Af (Ab f Z λa f=>Ab f Z λa f=>Bz 0 m ak Z underlying27 f Z Z λa f=>Ah f Z Z AJ λa f=>Aa ?_))
    rcases Ae aE with⟨aH,aE⟩|⟨aH,aE⟩
    ·refine An f Z aH (Ao (Ag (Al (Af (Ab f Z λa f=>Ab f Z λa f=>Bd aE λaI aJ aE=>Bq 0 m ak Z T27 f Z Z Z aJ λaK a aL f=>B2 0 m ak Z Bu f Z Z aL aJ λaM a aN f=>Ab f Z λa f=>Bd aE λaO aP aE=>A1 f Z call47 (Wk.S0 m aN h1 aP) λaQ w aR m a f=>Aa ?_)))))
     rcases Ae aE with⟨aS,aE⟩|⟨aS,aE⟩
     ·refine An f Z aS (Af (Ac f Z λa f=>Aa (Aq (have m:=m.dp 1;?_))))
      obtain rfl:=sj aE
      obtain rfl:=aF _ rfl
      obtain rfl:=sj hd
      exact⟨[(.bool false)],f.g Z,f.d,_,[],(gt aj (gt av (gt aG aR))),m,Z,Z⟩
     ·refine Ai f Z aS (Ao (Ak (Ab f Z λa f=>Ah f Z Z Ax λa f=>Ac f Z λa f=>Aa ?_)))
      obtain rfl:=sj aE
      exact⟨_,Z,_,Z,_,(gt aG aR),f.k Z,m⟩
    ·refine Ai f Z aH (AB Z (have m:=m.dp 1;?_))
     obtain rfl:=sj aE
     obtain rfl:=aF _ rfl
     exact⟨_,Z,_,aG,f.weak trivial,m⟩
   ·rintro a w ⟨_,rfl,az,aT,f,m⟩
    refine Af (Ac f Z λa f=>Aa (Aq ?_))
    obtain rfl:=sj hd
    exact⟨[(.bool true)],f.g Z,f.d,_,[],(gt aj (gt av aT)),m,Z,Z⟩
theorem Wk.L0 {x0 x1:Int}(m:Mem W G w (H)){y:Bool}(hd:D.L0 x0 x1=some y):
  Calls prog 86 #[(.int .u32 x0),iv x1] w (Res W G H (λ_ Ho v=>Ho=[]∧v=(.bool y))):=by
 refine Aw (args:=[(.int .u32 x0),iv x1]) (N:=10) [.tmp 4] func86 Z Z (lb Z) Z λa f=> ?_
 unfold D.L0 at hd
 refine Af (Ac f Z λa f=>Az (Ab f Z λa f=>Ab f Z λa f=> ?_))
 obtain⟨aa,hd⟩:=CR hd
 refine l_o f (r_shr (f.e Z) (f.e Z) aa) λa f=>Ah f Z Z CY λa f=>Ah f Z Z Bf λa f=>Ac f Z λa f=>Aa (Aq ?_)
 obtain rfl:=sj hd
 exact⟨[(.bool ((iand .u32 (BI .u32 x0 x1) 1)==1))],f.g Z,f.d,_,[],gr,m,Z,Z⟩
theorem Wk.B0 {v0 v1:Value}{x0 x1:LI}(m:Mem W G w (H))(h0:RSl (RI .u32) G v0 x0)(h1:R1 G v1 x1){y:(LI)}(hd:D.B0 x0 x1=some y):
  Calls prog 50 #[v0,v1] w (Res W G H (λG' Ho v=>∃r0:Value,∃i0:Itm,Ho=[i0]∧r0=v∧Ow (RI .u32) 58 G' i0 r0 y)):=by
 refine Aw (args:=[v0,v1]) (N:=44) [.tmp 4] func50 Z Z (lb Z) Z λa f=> ?_
 unfold D.B0 at hd
 refine Af (Ac f Z λa f=>Az (Ab f Z λa f=>AS underlying75 f Z Z h1 λa f=>Bd hd λaa ab hd=>l_make (R:=(RI .u32)) m T53 Z (by decide) Z f Z Z Z ab λac ad w a m ae f=>Ac f Z λa f=>Aa (Ag (Af (Ab f Z λa f=>AS underlying75 f Z Z h1 λa f=>Ab f Z λa f=>Aa (Bd hd λaf ag hd=> ?_))))))
 refine AH (λa w=>∃ah:LI,ah=af∧∃(ai:GH) (aj:Itm),GLe G ai∧Fr a 44 [(5,ad)]∧Mem W ai w (aj::H)∧Ow (RI .u32) 58 ai aj ad ah) ?_ ?_
 ·refine Al (AE (λak a w=>∃al:LI,∃am:Int,(al,am)=ak∧∃(an:GH) (ao:Itm),GLe G an∧Fr a 44 [(0,v0),(1,v1),(5,ad),(13,v1),(14,(iv (x1.length:Int))),(15,iv am)]∧Mem W an w (ao::H)∧Ow (RI .u32) 58 an ao ad al) ag ⟨_,_,Z,_,ac,gr,f.k Z,m,ae⟩ ?_)
  clear ag f m
  rintro ak ap aq ar a w ⟨al,am,rfl,an,ao,au,f,m,av⟩
  refine have h0:=rd1 au h0;have h1:=rd1 au h1;Af (Ah f Z Z AJ λa f=>Aa (Ag ?_))
  rcases Ae aq with⟨aw,aq⟩|⟨aw,aq⟩
  ·refine An f Z aw (Ao (Ag (Al (Af (Ab f Z λa f=>Bd aq λax ay aq=>Bt T75 f Z Z Z h1 ay λaz aA a aB aC f=> ?_)))))
   subst aC
   refine AL m Pl3 f Z Z aB λa f=>Ac f Z λa f=>Ac f Z λa f=>Az (Ab f Z λa f=>AS underlying75 f Z Z h1 λa f=>Ab f Z λa f=>Aa (Bd aq λaD aE aq=> ?_))
   refine AH (λa w=>∃aF:LI,aF=aD∧∃(aG:GH) (aH:Itm),GLe an aG∧Fr a 44 [(0,v0),(1,v1),(5,ad),(13,v1),(14,(iv (x1.length:Int))),(15,iv am)]∧Mem W aG w (aH::H)∧Ow (RI .u32) 58 aG aH ad aF) ?_ ?_
   ·refine Al (AE (λaI a w=>∃aJ:LI,∃aK:Int,(aJ,aK)=aI∧∃(aL:GH) (aM:Itm),GLe an aL∧Fr a 44 [(0,v0),(1,v1),(5,ad),(6,iv am),(7,iv ax),(13,v1),(14,(iv (x1.length:Int))),(15,iv am),(20,v1),(21,(iv (x1.length:Int))),(22,iv aK)]∧Mem W aL w (aM::H)∧Ow (RI .u32) 58 aL aM ad aJ) aE ⟨_,_,Z,_,ao,gr,f.k Z,m,av⟩ ?_)
    clear aE f m
    rintro aI aN aO aP a w ⟨aJ,aK,rfl,aL,aM,aQ,f,m,aR⟩
    refine have h0:=rd1 aQ h0;have h1:=rd1 aQ h1;Af (Ah f Z Z AJ λa f=>Aa (Ag ?_))
    rcases Ae aO with⟨aS,aO⟩|⟨aS,aO⟩
    ·refine An f Z aS (Ao (Ag (Al (Af (Ab f Z λa f=>Bd aO λaT aU aO=>Bt T75 f Z Z Z h1 aU λaV aW a aX aY f=> ?_)))))
     subst aY
     refine AL m Pl3 f Z Z aX λa f=>Ac f Z λa f=>Ac f Z λa f=>Az (Ab f Z λa f=>Ab f Z λa f=>Bd aO λaZ a0 aO=>Bt T53 f Z Z Z h0 a0 λa1 a2 a a3 a4 f=> ?_)
     subst a4
     refine AL m A7 f Z Z a3 λa f=>Ab f Z λa f=>Bd aO λa5 a6 aO=>A1 f Z call86 (Wk.L0 m a6) λa7 w a8 m a f=>have aR:=od1 a8 aR;Aa ?_
     rcases Ae aO with⟨a9,aO⟩|⟨a9,aO⟩
     ·refine An f Z a9 (A8 8 AR (by kernel_rfl) m (Am 0 8 Z f Z λa f=>Am 1 8 Z f Z λa f=>Bd aO λba bb aO=>A3 2 8 0 m aR T53 bb Z f Z Z λbc a bd f=>Bg 3 8 0 aR A7 bd bb Z f Z λbe a bf f=> ?_))
      subst bf
      refine Am 4 8 Z f Z λa f=>Bd aO λbg bh aO=>BZ (i:=5) 8 Z (by kernel_rfl) Z f Z Z Z call66 (λ_ _ w bi m=>Wk.c m bh) λa f=>q_p 6 8 Z f (λ_=>AP (f.e Z) (f.e Z) b_or) λa f=>Bd aO λbj bk aO=>A3 7 8 0 m aR T53 bk Z f Z Z λbl a bm f=>A4 λbn w bo m=>have aR:=od1 bo aR;AW 0 m aR Z sizeOf58 f Z Z bm bk Z Z Z λbp w m bq=>Aa (Ak (Ah f Z Z Ax λa f=>Ab f Z λa f=>Aa ?_))
      obtain rfl:=sj aO
      exact⟨_,Z,_,_,Z,_,bp,(gt aQ (gt a8 bo)),f.k Z,m,bq⟩
     ·refine Ai f Z a9 (Ao (Ak (Ah f Z Z Ax λa f=>Ab f Z λa f=>Aa ?_)))
      obtain rfl:=sj aO
      exact⟨_,Z,_,_,Z,_,aM,(gt aQ a8),f.k Z,m,aR⟩
    ·refine Ai f Z aS (AB Z ?_)
     obtain rfl:=sj aO
     obtain rfl:=aP _ rfl
     exact⟨_,Z,_,aM,aQ,f.k Z,m,aR⟩
   ·rintro a w ⟨aF,rfl,aG,aH,br,f,m,bs⟩
    refine Ak (Ah f Z Z Ax λa f=>Ab f Z λa f=>Aa ?_)
    obtain rfl:=sj aq
    exact⟨_,Z,_,_,Z,_,aH,(gt au br),f.k Z,m,bs⟩
  ·refine Ai f Z aw (AB Z ?_)
   obtain rfl:=sj aq
   obtain rfl:=ar _ rfl
   exact⟨_,Z,_,ao,au,f.k Z,m,av⟩
 ·rintro a w ⟨ah,rfl,ai,aj,bt,f,m,bu⟩
  refine Af (Ab f Z λa f=>Ac f Z λa f=>Aa (Aq ?_))
  obtain rfl:=sj hd
  exact⟨[ad],f.g Z,f.d,_,[aj],bt,m,_,_,Z,Z,bu⟩
theorem Wk.F0 {v0:Value}{x0:LI}(hW:BD W)(m:Mem W G w (H))(h0:RSl (RI .u32) G v0 x0){y:(LL)}(hd:D.F0 x0=some y):
  Calls prog 51 #[v0] w (Res W G H (λG' Ho v=>∃r0:Value,∃i0:Itm,Ho=[i0]∧v=(.agg #[r0])∧Ow R1 39 G' i0 r0 y)):=by
 refine Aw (args:=[v0]) (N:=22) [.cell 2 29] func51 Z Z (lb Z) Z λa f=> ?_
 unfold D.F0 at hd
 refine Af (Bj (cs:=[sn]) zeroValue29 m f Z Z λaa w a m f=>Az ?_)
 have ab:∀w,(Instr.build 29 #[]).run prog w= .ok (.agg #[sn]) w:=by intro w;simp[Instr.build,Instr.fill,B6,BT,BB,BO,Bx,B5,BV]
 refine Cr f Z Z ab λa f=>Bj (cs:=[sn]) zeroValue29 m f Z Z λac w a m f=>AA 0 0 (ds:=[sn]) m sizeOf29 f Z Z Z (Ay Z AQ) Z (lb Z) Z λw m=>Aa (Ag (Af (Ab f Z λa f=>AS underlying53 f Z Z h0 λa f=>Ab f Z λa f=>Aa ?_)))
 obtain⟨ad,m,ae⟩:=Ow.nil R1 39 m
 have⟨af,ag,hd⟩:=bind_some hd
 refine AH (λa w=>∃ah:LL,ah=af∧∃(ai:GH) (aj:Value) (ak:Itm),GLe G ai∧Fr a 22 [(2,pb aa),(3,pb ac)]∧Mem W ai w (ib aa 29 [sn]::ib ac 29 [aj]::ak::H)∧Ow R1 39 ai ak aj ah) ?_ ?_
 ·refine Al (have m:=m.fr 1;have m:=m.fr 2;AE (λal a w=>∃am:Int,∃an:LL,(am,an)=al∧∃(ao:GH) (ap:Value) (aq:Itm),GLe G ao∧Fr a 22 [(2,pb aa),(3,pb ac),(7,v0),(8,(iv (x0.length:Int))),(9,iv am)]∧Mem W ao w (ib aa 29 [sn]::ib ac 29 [ap]::aq::H)∧Ow R1 39 ao aq ap an) ag ⟨_,_,Z,_,sn,ad,gr,f.k Z,m,ae⟩ ?_)
  clear ag f m
  rintro al ar au av a w ⟨am,an,rfl,ao,ap,aq,aw,f,m,ax⟩
  refine have h0:=rd1 aw h0;Af (Ah f Z Z AJ λa f=>Aa (Ag ?_))
  rcases Ae au with⟨ay,au⟩|⟨ay,au⟩
  ·refine An f Z ay (Ao (Ag (Al (Af (Bd au λaz aA au=>Bt T53 f Z Z Z h0 aA λaB aC a aD aE f=> ?_)))))
   subst aE
   refine AL m A7 f Z Z aD λa f=>Ac f Z λa f=>Aa (A8 5 AR (by kernel_rfl) m (Cd 0 5 underlying29 Z sizeOf27 Z f Z λa f=>B3 1 5 1 BM Z Z Z f Z λa f=>Am 2 5 Z f Z λa f=>CK 3 Z λaF w aG m aH aH=>have ax:=od3 aG ax;Bd au λaI aJ au=>BS f Z call46 (Wk.f0 hW m aJ) λaK aL aM w aN m aO a f=>have ax:=od3 aN ax;Aa (aH aM [aL] _ _ aN m (CK 4 Z λaP w aQ m aR aR=>have aO:=od1 aQ aO;have ax:=od3 aQ ax;?_))))
   obtain⟨aS,aT,m,aU⟩:=Ow.stamp (RI.mono _) aO m
   refine have ax:=od3 aT ax;AX (R:=R1) (xs:=([aI]:LL)) (RSl.one _) m T27 f Z Z Z (by decide) (All2.cons aU (All2.nil _)) λaV aW w a m aX f=>Aa (aR aS [aV] _ _ aT m (A4 λaY w aZ m=>have aX:=od3 aZ aX;have ax:=od3 aZ ax;Bd au λa0 a1 au=>Be (RSl.one _) 3 m ax Z T27 Z (by decide) f Z Z Z (Ow.src (j:=0) aX m Z) a1 λa2 a3 w a m a4 f=>Bn underlying29 Z sizeOf27 f Z λa f=>AA 2 0 (ds:=[a3]) m sizeOf27 f Z Z (Ow.cells 3 m a4 Z) (Ay (Ow.one1 3 m a4 Z) AQ) Z (lb Z) Z λw m=>Aa (Ak (Ah f Z Z Ax λa f=>Ab f Z λa f=>Aa (have m:=m.fr 3;have m:=m.fr 3;have m:=m.fr 3;have m:=m.eraseAt 3;?_)))))
   obtain rfl:=sj au
   exact⟨_,Z,_,_,Z,_,a3,a2,(gt aw (gt aG (gt aN (gt aQ (gt aT aZ))))),f.k Z,m,a4⟩
  ·refine Ai f Z ay (AB Z ?_)
   obtain rfl:=sj au
   obtain rfl:=av _ rfl
   exact⟨_,Z,_,ap,aq,aw,f.k Z,m,ax⟩
 ·rintro a w ⟨ah,rfl,ai,aj,ak,a5,f,m,a6⟩
  refine Af (AN 1 0 (ds:=[aj]) m AU f Z Z Z Z Z λa f=>AA 0 0 (ds:=[aj]) m sizeOf29 f Z Z Z (Ay (Ow.one1 2 m a6 Z) AQ) Z (lb Z) Z λw m=>Aa (Aq (have a7:=B8 (P:=prog) 0 m AU f (s:=2) rfl rfl rfl;have m:=m.fr 2;have m:=m.eraseAt 2;have m:=m.eraseAt 1;?_)))
  obtain rfl:=sj hd
  exact⟨[(.agg #[aj])],⟨a7,trivial⟩,f.d,_,[ak],a5,m,_,_,Z,Z,a6⟩
theorem Wk.t0 {aa v1:Value}{ab:LL}{x1:(List (Int×Int×LI))}{x2:Int}(hW:BD W)(m:Mem W G w (H))(ac:R2 G aa ab)(h1:RPt G v1 x1){y:(LL)×Bool}(hd:D.t0 ab x1 x2=some y):
  Calls prog 16 #[(.agg #[aa]),v1,iv x2] w (Res W G H (λG' Ho v=>∃r0:Value,∃i0:Itm,Ho=[i0]∧v= .tuple #[(.agg #[r0]),(.bool y.2)]∧Ow R1 39 G' i0 r0 y.1)):=by
 refine Aw (args:=[(.agg #[aa]),v1,iv x2]) (N:=80) [.cell 6 29,.tmp 7] func16 Z Z (lb Z) Z λa f=> ?_
 unfold D.t0 at hd
 refine Af (Bv (cs:=[aa]) m f Z Z Z λad w a m f=>Bj (cs:=[sn]) zeroValue29 m f Z Z λae w a m f=>Ac f Z λa f=>Az (Ab f Z λa f=>Bd hd λaf ag hd=>AZ f Z call44 (Wk.Y hW m h1 ag) λah ai aj w ak m al a f=> ?_))
 obtain⟨am,an,rfl,rfl,ao⟩:=al
 refine have ac:=rd2 ak ac;have h1:=RPt.mono ptT _ _ _ _ ak h1;Ab f Z λa f=>l_o f (A2 (f.e Z) Z) λa f=>l_o f (A2 (f.e Z) Z) λa f=>Ac f Z λa f=>Ac f Z λa f=>Aa (Ag (Ag (A8 36 AR (by kernel_rfl) m (By (i:=0) (ds:=[aa]) 36 2 AU Z Z Z Z (by kernel_rfl) Z f Z Z Z λa f=>Bd hd λap aq hd=>BZ (i:=1) 36 Z (by kernel_rfl) Z f Z Z Z call22 (λ_ _ w ar m=>Wk.z m (rd2 ar ac) aq) λa f=>q_p 2 36 Z f (λ_=>Bc (f.e Z)) λa f=>Am 3 36 Z f Z λa f=> ?_))))
 refine BQ (fuel':=29) (listed':= #[true,true,true,true,true,true,true,false,false,false,false,false,false,false,false,false,false,false,false,false,false,false,false,false,false,false,false,false,false,false,false,false,false,false,false,false]) (λa=>Fr a 80 [(0,(.agg #[aa])),(1,v1),(2,iv x2),(3,pb ad),(6,pb ae),(8,am),(9,(.bool af.2)),(18,(.agg #[aa])),(19,(.bool ap)),(20,(.bool (!ap))),(21,(.bool (!ap))),(24,(.bool ((!ap)||(!af.2))))]) ?_ ?_
 ·intro a f
  refine Am 7 36 Z f Z λa f=>Bd hd λau av hd=>BQ (fuel':=16) (listed':= #[true,true,true,true,true,true,true,true,true,true,true,true,true,true,true,true,true,true,true,true,false,false,false,false,false,false,false,false,false,false,false,false,false,false,false,false]) (λa=>Fr a 80 [(0,(.agg #[aa])),(1,v1),(2,iv x2),(3,pb ad),(6,pb ae),(8,am),(9,(.bool af.2)),(18,(.agg #[aa])),(19,(.bool ap)),(20,(.bool (!ap))),(21,(.bool (!ap))),(24,(.bool ((!ap)||(!af.2)))),(25,(.bool ((!ap)||(!af.2)))),(37,(.bool au))]) ?_ ?_
  ·intro a f
   refine Am 20 36 Z f Z λa f=>Bd hd λaw ax hd=>BQ (fuel':=8) (listed':= #[true,true,true,true,true,true,true,true,true,true,true,true,true,true,true,true,true,true,true,true,true,true,true,true,true,true,true,true,false,false,false,false,false,false,false,false]) (λa=>Fr a 80 [(0,(.agg #[aa])),(1,v1),(2,iv x2),(3,pb ad),(6,pb ae),(8,am),(9,(.bool af.2)),(18,(.agg #[aa])),(19,(.bool ap)),(20,(.bool (!ap))),(21,(.bool (!ap))),(24,(.bool ((!ap)||(!af.2)))),(25,(.bool ((!ap)||(!af.2)))),(37,(.bool au)),(38,(.bool au)),(45,(.bool aw))]) ?_ ?_
   ·intro a f
    refine Am 28 36 Z f Z λa f=>Bd hd λay az hd=>BQ (fuel':=0) (listed':= #[true,true,true,true,true,true,true,true,true,true,true,true,true,true,true,true,true,true,true,true,true,true,true,true,true,true,true,true,true,true,true,true,true,true,true,true]) (λa=>Fr a 80 [(0,(.agg #[aa])),(1,v1),(2,iv x2),(3,pb ad),(6,pb ae),(8,am),(9,(.bool af.2)),(18,(.agg #[aa])),(19,(.bool ap)),(20,(.bool (!ap))),(21,(.bool (!ap))),(24,(.bool ((!ap)||(!af.2)))),(25,(.bool ((!ap)||(!af.2)))),(37,(.bool au)),(38,(.bool au)),(45,(.bool aw)),(46,(.bool aw)),(53,(.bool ay))]) ?_ ?_
    ·intro a f
     refine A4 λaA w aB m=>have ac:=rd2 aB ac;have h1:=RPt.mono ptT _ _ _ _ aB h1;have ao:=od1 aB ao;Aa ?_
     rcases Ae hd with⟨aC,hd⟩|⟨aC,hd⟩
     ·refine An f Z aC (Af ?_)
      have aD:∀w,(Instr.build 29 #[]).run prog w= .ok (.agg #[sn]) w:=by intro w;simp[Instr.build,Instr.fill,B6,BT,BB,BO,Bx,B5,BV]
      refine Cr f Z Z aD λa f=>AA 1 0 (ds:=[sn]) m sizeOf29 f Z Z Z (Ay Z AQ) Z (lb Z) Z λw m=>Ac f Z λa f=>Aa (Aq ?_)
      obtain⟨aE,m,aF⟩:=Ow.nil R1 39 m
      refine have aG:=B8 (P:=prog) 2 m AU f (s:=6) rfl rfl rfl;have m:=m.eraseAt 3;have m:=m.eraseAt 2;have m:=m.eraseAt 1;?_
      obtain rfl:=sj hd
      exact⟨[(.agg #[sn]),(.bool false)],⟨aG,f.get _ _ Z,trivial⟩,f.d,_,[aE],(gt ak aB),m,_,_,Z,Z,aF⟩
     ·refine Ai f Z aC (Ao (Af (AX (R:=R0) (xs:=([]:LI)) (RI.one _) m T75 f Z Z Z (by decide) (All2.nil _) λaH aI w a m aJ f=>Ac f Z λa f=>Aa (Ag (Af (Ab f Z λa f=>Ab f Z λa f=>Bd hd λaK aL hd=>Cz T33 f Z Z Z h1 aL λaM aN a aO aP f=>Ct (E:=P3S) (c:=(hdV aN)) underlying42 Z sizeOf39 (by decide) f Z Z aO Z λaQ a aR f=>AL m Bu f Z Z aR λa f=>AS underlying39 f Z Z aP λa f=>Ab f Z λa f=>Aa (Bd hd λaS aT hd=> ?_)))))))
      refine AH (λa w=>∃aU:LI,aU=aS∧∃(aV:GH) (aW:Value) (aX:Itm),GLe aA aV∧Fr a 80 [(3,pb ad),(6,pb ae),(10,aW)]∧Mem W aV w (ib ad 29 [aa]::ib ae 29 [sn]::aX::H)∧Ow R0 3 aV aX aW aU) ?_ ?_
      ·refine Al (have m:=m.fr 1;have m:=m.fr 2;have m:=m.fr 3;AE (λaY a w=>∃aZ:LI,∃a2:Int,(aZ,a2)=aY∧∃(a3:GH) (a4:Value) (a5:Itm),GLe aA a3∧Fr a 80 [(3,pb ad),(6,pb ae),(8,am),(10,a4),(60,(hdV aN)),(61,(iv (aK.2.2.length:Int))),(62,iv a2)]∧Mem W a3 w (ib ad 29 [aa]::ib ae 29 [sn]::an::a5::H)∧Ow R0 3 a3 a5 a4 aZ) aT ⟨_,_,Z,_,aI,aH,gr,f.k Z,m,aJ⟩ ?_)
       clear aT f m
       rintro aY a6 a7 a8 a w ⟨aZ,a2,rfl,a3,a4,a5,a9,f,m,ba⟩
       refine have aP:=rd1 a9 aP;have ao:=od1 a9 ao;Af (Ah f Z Z AJ λa f=>Aa (Ag ?_))
       rcases Ae a7 with⟨bb,a7⟩|⟨bb,a7⟩
       ·refine An f Z bb (Ao (Ag (Al (Af (Bd a7 λbc bd a7=>Bt T39 f Z Z Z aP bd λbe bf a bg bh f=> ?_)))))
        subst bh
        refine AL m Pl2 f Z Z bg λa f=>Ac f Z λa f=>Aa (Ak (Ab f Z λa f=>Ab f Z λa f=>Ab f Z λa f=>Bd a7 λbi bj a7=>Bq 2 m ao Z T52 f Z Z Z bj λbk a bl f=>B2 2 m ao Z A7 f Z Z bl bj λbm a bn f=> ?_))
        subst bn
        refine Bd a7 λbo bp a7=>A1 f Z call49 (Wk.e hW m bp) λbq w br m a f=>have ba:=od1 br ba;AX (R:=R0) (xs:=([bo]:LI)) (RI.one _) m T75 f Z Z Z (by decide) (All2.cons Z (All2.nil _)) λbs bt w a m bu f=>Bd a7 λbv bw a7=>Be (RI.one _) 4 m ba Z T75 Z (by decide) f Z Z Z (Ow.src (j:=0) bu m Z) bw λbx bz w a m bA f=>Ac f Z λa f=>Aa (Ak (Ah f Z Z Ax λa f=>Ab f Z λa f=>Aa (have m:=m.fr 4;have m:=m.fr 4;have m:=m.fr 4;have m:Mem W bq w (ib ad 29 [aa]::ib ae 29 [sn]::an::bx::bs::H):=m.fr 4;have m:=m.eraseAt 4;?_)))
        obtain rfl:=sj a7
        exact⟨_,Z,_,_,Z,_,bz,bx,(gt a9 br),f.k Z,m,bA⟩
       ·refine Ai f Z bb (AB Z (have m:=m.fr 3;have m:=m.fr 2;have m:=m.fr 2;have m:=m.eraseAt 3;?_))
        obtain rfl:=sj a7
        obtain rfl:=a8 _ rfl
        exact⟨_,Z,_,a4,a5,a9,f.k Z,m,ba⟩
      ·rintro a w ⟨aU,rfl,aV,aW,aX,bB,f,m,bC⟩
       refine have ac:=rd2 bB ac;Af (AN 0 0 (ds:=[aa]) m AU f Z Z Z Z Z λa f=>Bd hd λbD bE hd=>BS f Z call23 (Wk.v m ac bE) λbF bG bH w bI m bJ a f=>have bC:=od1 bI bC;Ab f Z λa f=>Bd hd λbK bL hd=>BS f Z call50 (Ow.lendCall (RI.mono _) 0 bJ m Z (λbM bN m bO=>(Ow.lendCall (RI.mono _) 2 (od1 bN bC) m Z (λbP bQ m bR=>Wk.B0 m (rd1 bQ bO) bR bL) (λ_ G' _ _ ⟨a0,a1,e1,e2,o0⟩=>⟨a0,a1,e1,e2,Ow.free (RI.free _) G' o0⟩))) (λ_ G' _ _ ⟨a0,a1,e1,e2,o0⟩=>⟨a0,a1,e1,e2,Ow.free (RI.free _) G' o0⟩)) λbS bT bU w bV m bW a f=> ?_)
       obtain⟨bX,bY,m,bZ⟩:=Ow.stamp (RI.mono _) bW m
       refine Bd hd λb0 b1 hd=>AZ f Z call51 (Wk.F0 hW m bZ b1) λb2 b3 b4 w b5 m b6 a f=> ?_
       obtain⟨b7,b8,rfl,rfl,b9⟩:=b6
       refine AA 3 0 (ds:=[b7]) m sizeOf29 f Z Z Z (Ay (Ow.one1 0 m b9 Z) AQ) Z (lb Z) Z λw m=>Ac f Z λa f=>Aa (Aq (have ca:=B8 (P:=prog) 3 m AU f (s:=6) rfl rfl rfl;have m:=m.fr 4;have m:=m.fr 2;have m:=m.fr 2;have m:Mem W b3 w (b8::bG::aX::ib ad 29 [aa]::H):=m.eraseAt 4;have m:=m.eraseAt 3;have m:=m.eraseAt 2;have m:=m.eraseAt 1;?_))
       obtain rfl:=sj hd
       exact⟨[(.agg #[b7]),(.bool true)],⟨ca,f.get _ _ Z,trivial⟩,f.d,_,[b8],(gt ak (gt aB (gt bB (gt bI (gt bV (gt bY b5)))))),m,_,_,Z,Z,b9⟩
    ·intro cb
     rcases Ae az with⟨cc,az⟩|⟨cc,az⟩
     ·refine Ap 29 36 Z f cc λa f=>Ap 30 36 Z f cc λa f=>Ap 31 36 Z f cc λa f=>Ap 32 36 Z f cc λa f=>Ap 33 36 Z f cc λa f=>Ap 34 36 Z f cc λa f=>q_p 35 36 Z f (λ_=>AD (f.e Z) cc (f.e Z)) λa f=> ?_
      obtain rfl:=sj az
      exact cb _ (f.k Z)
     ·refine Am (hw:=wo f cc) 29 36 Z f Z λa f=>Am (hw:=wo f cc) 30 36 Z f Z λa f=>Bd az λcd ce az=>q_atP (i:=31) (listed':= #[true,true,true,true,true,true,true,true,true,true,true,true,true,true,true,true,true,true,true,true,true,true,true,true,true,true,true,true,true,true,true,true,false,false,false,false]) 36 T33 h1 ce Z (by kernel_rfl) Z f (AV f Z Z Z cc) Z Z Z λcf cg a ch ci f=>q_fieldR (i:=32) (listed':= #[true,true,true,true,true,true,true,true,true,true,true,true,true,true,true,true,true,true,true,true,true,true,true,true,true,true,true,true,true,true,true,true,true,false,false,false]) (C:=P3S) (c:=(iv cd.1)) 36 underlying42 Z sizeOf2 (by decide) ch Z Z (by kernel_rfl) Z f (AV f Z Z Z cc) Z Z λcj a ck f=>BR (hw:=wo f cc) 33 36 Pl2 ck Z f Z λa f=>q_p (hw:=wo f cc) 34 36 Z f (λ_=>AP (f.e Z) (f.e Z) Bf) λa f=> ?_
      refine q_p 35 36 Z f (λ_=>AC (f.e Z) cc (f.e Z)) λa f=> ?_
      obtain rfl:=sj az
      exact cb _ (f.k Z)
   ·intro cl
    rcases Ae ax with⟨cm,ax⟩|⟨cm,ax⟩
    ·refine Ap 21 36 Z f cm λa f=>Ap 22 36 Z f cm λa f=>Ap 23 36 Z f cm λa f=>Ap 24 36 Z f cm λa f=>Ap 25 36 Z f cm λa f=>Ap 26 36 Z f cm λa f=>q_p 27 36 Z f (λ_=>AD (f.e Z) cm (f.e Z)) λa f=> ?_
     obtain rfl:=sj ax
     exact cl _ (f.k Z)
    ·refine Am (hw:=wo f cm) 21 36 Z f Z λa f=>Am (hw:=wo f cm) 22 36 Z f Z λa f=>q_lenP (i:=23) (listed':= #[true,true,true,true,true,true,true,true,true,true,true,true,true,true,true,true,true,true,true,true,true,true,true,true,false,false,false,false,false,false,false,false,false,false,false,false]) 36 underlying33 h1 Z (by kernel_rfl) Z f (AV f Z Z Z cm) Z Z λa f=>q_p (hw:=wo f cm) 24 36 Z f (λ_=>AP (f.e Z) (f.e Z) AT) λa f=>Bd ax λcn co ax=>BZ (i:=25) 36 Z (by kernel_rfl) Z f (AV f Z Z Z cm) Z Z call45 (λ_ _ w cp m=>Wk.y m co) λa f=>q_p (hw:=wo f cm) 26 36 Z f (λ_=>Bc (f.e Z)) λa f=>q_p 27 36 Z f (λ_=>AC (f.e Z) cm (f.e Z)) λa f=> ?_
     obtain rfl:=sj ax
     exact cl _ (f.k Z)
  ·intro cq
   rcases Ae av with⟨cr,av⟩|⟨cr,av⟩
   ·refine Ap 8 36 Z f cr λa f=>Ap 9 36 Z f cr λa f=>Ap 10 36 Z f cr λa f=>Ap 11 36 Z f cr λa f=>Ap 12 36 Z f cr λa f=>Ap 13 36 Z f cr λa f=>Ap 14 36 Z f cr λa f=>Ap 15 36 Z f cr λa f=>Ap 16 36 Z f cr λa f=>Ap 17 36 Z f cr λa f=>Ap 18 36 Z f cr λa f=>q_p 19 36 Z f (λ_=>AD (f.e Z) cr (f.e Z)) λa f=> ?_
    obtain rfl:=sj av
    exact cq _ (f.k Z)
   ·refine Am (hw:=wo f cr) 8 36 Z f Z λa f=>Am (hw:=wo f cr) 9 36 Z f Z λa f=>q_own_len (i:=10) 36 0 m ao Z underlying52 Z (by kernel_rfl) Z f (AV f Z Z Z cr) Z Z λa f=>q_p (hw:=wo f cr) 11 36 Z f (λ_=>AP (f.e Z) (f.e Z) AT) λa f=>Bd av λct cu av=>A3 (hw:=wo f cr) 12 36 0 m ao T52 cu Z f Z Z λcv a cw f=>Bg (hw:=wo f cr) 13 36 0 ao A7 cw cu Z f Z λcx a cy f=> ?_
    subst cy
    refine Bd av λcz cA av=>BZ (i:=14) 36 Z (by kernel_rfl) Z f (AV f Z Z Z cr) Z Z call48 (λ_ _ w cB m=>Wk.k m cA) λa f=>Cd (hw:=wo f cr) 15 36 underlying29 Z sizeOf27 Z f Z λa f=>B3 (hw:=wo f cr) 16 36 2 BM Z Z Z f Z λa f=>DI (i:=17) 36 underlying27 ac Z (by kernel_rfl) Z f (AV f Z Z Z cr) Z Z λa f=>q_p (hw:=wo f cr) 18 36 Z f (λ_=>AP (f.e Z) (f.e Z) BN) λa f=>q_p 19 36 Z f (λ_=>AC (f.e Z) cr (f.e Z)) λa f=> ?_
    obtain rfl:=sj av
    exact cq _ (f.k Z)
 ·intro cC
  rcases Bool.eq_false_or_eq_true (!ap) with cD|cD
  ·exact Ap 4 36 Z f cD λa f=>Ap 5 36 Z f cD λa f=>q_p 6 36 Z f (λ_=>AD (f.e Z) cD (f.e Z)) λa f=>cC _ (f.weak ⟨Z,Z,Z,Z,Z,Z,Z,Z,Z,Z,Z,by rw[cD];rfl,trivial⟩)
  ·exact Am (hw:=wo f cD) 4 36 Z f Z λa f=>q_p (hw:=wo f cD) 5 36 Z f (λ_=>Bc (f.e Z)) λa f=>q_p 6 36 Z f (λ_=>AC (f.e Z) cD (f.e Z)) λa f=>cC _ (f.weak ⟨Z,Z,Z,Z,Z,Z,Z,Z,Z,Z,Z,by rw[cD];rfl,trivial⟩)
theorem Wk.Q0 {aa v1:Value}{ab:LL}{x1:LI}{x2:Int}{x3:Bool}(m:Mem W G w (H))(ac:R2 G aa ab)(h1:R1 G v1 x1){y:(LI)}(hd:D.Q0 ab x1 x2 x3=some y):
  Calls prog 110 #[(.agg #[aa]),v1,iv x2,(.bool x3)] w (Res W G H (λG' Ho v=>∃r0:Value,Ho=[]∧r0=v∧R1 G' r0 y)):=by
 refine Aw (args:=[(.agg #[aa]),v1,iv x2,(.bool x3)]) (N:=64) [.tmp 8] func110 Z Z (lb Z) Z λa f=> ?_
 unfold D.Q0 at hd
 refine Af (Bv (cs:=[aa]) m f Z Z Z λad w a m f=>Ac f Z λa f=>Az (Ab f Z λa f=>AX (R:=R0) (xs:=([x2]:LI)) (RI.one _) m T39 f Z Z Z (by decide) (All2.cons Z (All2.nil _)) λae af w a m ag f=>Ac f Z λa f=>Az (Ab f Z λa f=>AX (R:=R0) (xs:=([x2]:LI)) (RI.one _) m T39 f Z Z Z (by decide) (All2.cons Z (All2.nil _)) λah ai w a m aj f=> ?_)))
 obtain⟨ak,m,al⟩:=OwT.of m aj (by simp)
 refine Ac f Z λa f=>Aa (Ag (have m:=m.fr 1;?_))
 obtain⟨am,an,m,ao⟩:=Ow.stamp (RI.mono _) ag m
 refine have ac:=rd2 an ac;have h1:=rd1 an h1;have al:=OwT.mono (RI.mono _) an al;Bd hd λap aq hd=> ?_
 refine AH (λa w=>∃ar:LI,ar=ap∧∃(au:GH) (av:Value),GLe am au∧Fr a 64 [(9,av)]∧Mem W au w (H)∧R1 au av ar) ?_ ?_
 ·refine Al (have m:=m.fr 1;AE (λaw a w=>∃ax:LI,∃ay:LI,(ax,ay)=aw∧∃(az:GH) (aA:Value) (aB:Value) (aC:Itm),GLe am az∧Fr a 64 [(1,v1),(3,(.bool x3)),(4,pb ad),(9,aA),(10,aB)]∧Mem W az w (ib ad 29 [aa]::aC::H)∧R1 az aA ax∧OwT R0 2 az aC aB ay) aq ⟨_,_,Z,_,af,ai,ak,gr,f.k Z,m,ao,al⟩ ?_)
  clear aq f m
  rintro aw aD aE aF a w ⟨ax,ay,rfl,az,aA,aB,aC,aG,f,m,aH,aI⟩
  refine have h1:=rd1 aG h1;have ac:=rd2 aG ac;Ag (Af (Ab f Z λa f=>l_ownT_len 1 m aI Z underlying39 f Z Z λa f=>Ah f Z Z BX λa f=>Aa ?_))
  rcases Ae aE with⟨aJ,aE⟩|⟨aJ,aE⟩
  ·refine An f Z aJ (Ao (Al (Af (Ab f Z λa f=>Bd aE λaK aL aE=>l_ownT_at 1 m aI Z T39 f Z Z Z aL λaM a aN f=>l_ownT_load 1 m aI Z Pl2 f Z Z aN aL λaO a aP f=> ?_))))
   subst aP
   refine Ac f Z λa f=>Az (Ab f Z λa f=>Bd aE λaQ aR aE=>l_ownT_tail 1 m aI Z T39 f Z Z Z aR λaS aT w a m aU f=>Ac f Z λa f=>Az (Ac f Z λa f=>Aa (Bd aE λaV aW aE=> ?_)))
   refine AH (λa w=>∃aX:LI,∃aY:LI,(aX,aY)=aV∧∃(aZ:GH) (a0:Value) (a1:Value) (a2:Itm),GLe az aZ∧Fr a 64 [(1,v1),(3,(.bool x3)),(4,pb ad),(9,a0),(10,a1)]∧Mem W aZ w (ib ad 29 [aa]::a2::H)∧R1 aZ a0 aX∧OwT R0 2 aZ a2 a1 aY) ?_ ?_
   ·refine Al (AE (λa3 a w=>∃a4:LI,∃a5:LI,∃a6:Int,(a4,a5,a6)=a3∧∃(a7:GH) (a8:Value) (a9:Value) (ba:Itm),GLe az a7∧Fr a 64 [(1,v1),(3,(.bool x3)),(4,pb ad),(9,a8),(10,a9),(11,iv aK),(12,iv a6)]∧Mem W a7 w (ib ad 29 [aa]::ba::H)∧R1 a7 a8 a4∧OwT R0 2 a7 ba a9 a5) aW ⟨_,_,_,Z,_,aA,aT,aS,gr,f.k Z,m,aH,aU⟩ ?_)
    clear aW f m
    rintro a3 bb bc bd a w ⟨a4,a5,a6,rfl,a7,a8,a9,ba,be,f,m,bf,bg⟩
    refine have h1:=rd1 be h1;have ac:=rd2 be ac;Ag (Af (Ab f Z λa f=>Ab f Z λa f=>AS underlying39 f Z Z h1 λa f=>Ah f Z Z AJ λa f=>Aa ?_))
    rcases Ae bc with⟨bh,bc⟩|⟨bh,bc⟩
    ·refine An f Z bh (Ao (Ag (Al (Af (Ab f Z λa f=>Ab f Z λa f=>Bd bc λbi bj bc=>Bt T39 f Z Z Z h1 bj λbk bl a bm bn f=> ?_)))))
     subst bn
     refine AL m Pl2 f Z Z bm λa f=>Ac f Z λa f=>Az (Ab f Z λa f=>Ab f Z λa f=>Ah f Z Z BN λa f=>Ab f Z λa f=>Bd bc λbo bp bc=> ?_)
     refine Bi 10 (λa w=>∃bq,GLe a7 bq∧Mem W bq w (ib ad 29 [aa]::ba::H)∧Fr a 64 [(1,v1),(3,(.bool x3)),(4,pb ad),(9,a8),(10,a9),(11,iv aK),(12,iv a6),(13,iv bi),(36,iv bi),(37,iv aK),(38,(.bool (bi !=aK))),(39,(.bool (bi !=aK))),(49,(.bool bo))]) ?_ ?_
     ·rcases Ae bp with⟨br,bp⟩|⟨br,bp⟩
      ·refine As f br (Bn underlying29 Z sizeOf27 f Z λa f=>As f br (AI 0 0 m BM f Z Z Z Z λa f=>As f br (Ab f Z λa f=>As f br (Bd bp λbs bt bp=>Bt T27 f Z Z Z ac bt λbu bv a bw bx f=>As f br (AL m Bu f Z Z bw λa f=>As f br (Ab f Z λa f=>As f br (Bd bp λbz bA bp=>A1 f Z call74 (Wk.d m bx bA) λbB w bC m a f=>have bg:=OwT.mono (RI.mono _) bC bg;As f br (Ab f Z λa f=>As f br (l_o f (r_bool_neq (f.e Z) (f.e Z) underlying4) λa f=>l_o f (AD (f.e Z) br (f.e Z)) λa f=> ?_)))))))))
       obtain rfl:=sj bp
       exact⟨_,bC,m,f.k Z⟩
      ·refine Au f br λa f=>Au f br λa f=>Au f br λa f=>Au f br λa f=>Au f br λa f=>Au f br λa f=>Au f br λa f=>Au f br λa f=>Au f br λa f=>l_o f (AC (f.e Z) br (f.e Z)) λa f=> ?_
       obtain rfl:=sj bp
       exact⟨_,gr,m,f.k Z⟩
     ·rintro a w ⟨bq,bD,m,f⟩
      refine have bf:=rd1 bD bf;have bg:=OwT.mono (RI.mono _) bD bg;Ab f Z λa f=>Bd bc λbE bF bc=> ?_
      refine Bi 5 (λa w=>∃bG,GLe bq bG∧Mem W bG w (ib ad 29 [aa]::ba::H)∧Fr a 64 [(1,v1),(3,(.bool x3)),(4,pb ad),(9,a8),(10,a9),(11,iv aK),(12,iv a6),(13,iv bi),(36,iv bi),(37,iv aK),(38,(.bool (bi !=aK))),(39,(.bool (bi !=aK))),(49,(.bool bo)),(50,(.bool bo)),(55,(.bool bE))]) ?_ ?_
      ·rcases Ae bF with⟨bH,bF⟩|⟨bH,bF⟩
       ·refine As f bH (Ab f Z λa f=>As f bH (Ab f Z λa f=>As f bH (Bd bF λbI bJ bF=>A1 f Z call74 (Wk.d m bf bJ) λbK w bL m a f=>have bg:=OwT.mono (RI.mono _) bL bg;As f bH (l_o f (Bc (f.e Z)) λa f=>l_o f (AD (f.e Z) bH (f.e Z)) λa f=> ?_))))
        obtain rfl:=sj bF
        exact⟨_,bL,m,f.k Z⟩
       ·refine Au f bH λa f=>Au f bH λa f=>Au f bH λa f=>Au f bH λa f=>l_o f (AC (f.e Z) bH (f.e Z)) λa f=> ?_
        obtain rfl:=sj bF
        exact⟨_,gr,m,f.k Z⟩
      ·rintro a w ⟨bG,bM,m,f⟩
       refine have bf:=rd1 bM bf;have bg:=OwT.mono (RI.mono _) bM bg;Aa ?_
       rcases Ae bc with⟨bN,bc⟩|⟨bN,bc⟩
       ·refine An f Z bN (Af (Ab f Z λa f=>Ab f Z λa f=>Bd bc λbO bP bc=>AZ f Z call69 (Wk.g m bf bP) λbQ bR bS w bT m bU a f=> ?_))
        obtain⟨bV,rfl,rfl,bW⟩:=bU
        refine have bg:=OwT.mono (RI.mono _) bT bg;Ac f Z λa f=>Aa (Ak (Ab f Z λa f=>Ab f Z λa f=>AX (R:=R0) (xs:=([bi]:LI)) (RI.one _) m T39 f Z Z Z (by decide) (All2.cons Z (All2.nil _)) λbX bY w a m bZ f=>Bd bc λb0 b1 bc=>l_appendT (RI.one _) 2 m bg Z (by simp) T39 Z (by decide) f Z Z Z (Ow.src (j:=0) bZ m Z) b1 λb2 b3 w a m b4 f=>Ac f Z λa f=>Aa (Ak (Ab f Z λa f=>Ah f Z Z Ax λa f=>Ac f Z λa f=>Aa (have m:=m.fr 2;have m:=m.fr 2;have m:=m.eraseAt 2;?_)))))
        obtain rfl:=sj bc
        exact⟨_,Z,_,_,_,Z,_,bV,b3,b2,(gt be (gt bD (gt bM bT))),f.k Z,m,bW,b4⟩
       ·refine Ai f Z bN (Ao (Ak (Ab f Z λa f=>Ah f Z Z Ax λa f=>Ac f Z λa f=>Aa ?_)))
        obtain rfl:=sj bc
        exact⟨_,Z,_,_,_,Z,_,a8,a9,ba,(gt be (gt bD bM)),f.k Z,m,bf,bg⟩
    ·refine Ai f Z bh (AB Z ?_)
     obtain rfl:=sj bc
     obtain rfl:=bd _ rfl
     exact⟨_,_,Z,_,a8,a9,ba,be,f.k Z,m,bf,bg⟩
   ·rintro a w ⟨aX,aY,rfl,aZ,a0,a1,a2,b5,f,m,b6,b7⟩
    obtain rfl:=sj aE
    exact⟨_,Z,_,_,Z,_,a0,a1,a2,(gt aG b5),f.k Z,m,b6,b7⟩
  ·refine Ai f Z aJ (AB Z (have m:=m.dp 2;?_))
   obtain rfl:=sj aE
   obtain rfl:=aF _ rfl
   exact⟨_,Z,_,aA,aG,f.k Z,m,aH⟩
 ·rintro a w ⟨ar,rfl,au,av,b8,f,m,b9⟩
  refine Af (Ab f Z λa f=>Ac f Z λa f=>Aa (Aq ?_))
  obtain rfl:=sj hd
  exact⟨[av],f.g Z,f.d,_,[],(gt an b8),m,_,Z,Z,b9⟩
theorem Wk.h0 {aa v1:Value}{ab:LL}{x1:LI}{x2:Bool}(m:Mem W G w (H))(ac:R2 G aa ab)(h1:R1 G v1 x1){y:(LL)}(hd:D.h0 ab x1 x2=some y):
  Calls prog 97 #[(.agg #[aa]),v1,(.bool x2)] w (Res W G H (λG' Ho v=>∃r0:Value,∃i0:Itm,Ho=[i0]∧r0=v∧Ow R1 39 G' i0 r0 y)):=by
 refine Aw (args:=[(.agg #[aa]),v1,(.bool x2)]) (N:=51) [.tmp 6] func97 Z Z (lb Z) Z λa f=> ?_
 unfold D.h0 at hd
 refine Af (Bv (cs:=[aa]) m f Z Z Z λad w a m f=>Ac f Z λa f=>Az (AX (R:=R1) (xs:=([]:LL)) (RSl.one _) m T27 f Z Z Z (by decide) (All2.nil _) λae af w a m ag f=>Ac f Z λa f=>Az (AX (R:=R0) (xs:=([]:LI)) (RI.one _) m T39 f Z Z Z (by decide) (All2.nil _) λah ai w a m aj f=>Ac f Z λa f=>Aa (Ag (Af (Ac f Z λa f=>Aa ?_))))))
 obtain⟨ak,al,m,am⟩:=Ow.stamp (RI.mono _) aj m
 refine have ac:=rd2 al ac;have h1:=rd1 al h1;have ag:=od3 al ag;Bd hd λan ao hd=> ?_
 refine AH (λa w=>∃ap:LL,ap=an∧∃(aq:GH) (ar:Value) (au:Itm),GLe ak aq∧Fr a 51 [(7,ar)]∧Mem W aq w (au::H)∧Ow R1 39 aq au ar ap) ?_ ?_
 ·refine Al (have m:=m.fr 1;AE (λav a w=>∃aw:LL,∃ax:LI,∃ay:Int,(aw,ax,ay)=av∧∃(az:GH) (aA:Value) (aB:Itm) (aC:Value),GLe ak az∧Fr a 51 [(1,v1),(2,(.bool x2)),(3,pb ad),(7,aA),(8,aC),(9,iv ay)]∧Mem W az w (ib ad 29 [aa]::aB::H)∧Ow R1 39 az aB aA aw∧R1 az aC ax) ao ⟨_,_,_,Z,_,af,ae,ai,gr,f.k Z,m,ag,am⟩ ?_)
  clear ao f m
  rintro av aD aE aF a w ⟨aw,ax,ay,rfl,az,aA,aB,aC,aG,f,m,aH,aI⟩
  refine have h1:=rd1 aG h1;have ac:=rd2 aG ac;Ag (Af (Ab f Z λa f=>Ab f Z λa f=>AS underlying39 f Z Z h1 λa f=>Ah f Z Z AJ λa f=>Aa ?_))
  rcases Ae aE with⟨aJ,aE⟩|⟨aJ,aE⟩
  ·refine An f Z aJ (Ao (Ag (Al (Ag (Af (Ab f Z λa f=>Ab f Z λa f=>Ab f Z λa f=>Bd aE λaK aL aE=>Bt T39 f Z Z Z h1 aL λaM aN a aO aP f=> ?_))))))
   subst aP
   refine AL m Pl2 f Z Z aO λa f=>Bd aE λaQ aR aE=>A1 f Z call74 (Wk.d m aI aR) λaS w aT m a f=>have h1:=rd1 aT h1;have aI:=rd1 aT aI;have ac:=rd2 aT ac;have aH:=od3 aT aH;Aa ?_
   rcases Ae aE with⟨aU,aE⟩|⟨aU,aE⟩
   ·refine An f Z aU (AB Z (Ak (Ab f Z λa f=>Ah f Z Z Ax λa f=>Ac f Z λa f=>Aa ?_)))
    obtain rfl:=sj aE
    exact⟨_,Z,_,_,_,Z,_,aA,aB,aC,(gt aG aT),f.k Z,m,aH,aI⟩
   ·refine Ai f Z aU (Ao (Ag (A8 9 AR (by kernel_rfl) m (By (i:=0) (ds:=[aa]) 9 0 AU Z Z Z Z (by kernel_rfl) Z f Z Z Z λa f=>Am 1 9 Z f Z λa f=>Am 2 9 Z f Z λa f=>Am 3 9 Z f Z λa f=>Bd aE λaV aW aE=>B1 4 9 T39 h1 aW Z f Z Z λaX aY a aZ a0 f=> ?_))))
    subst a0
    refine BR 5 9 Pl2 aZ Z f Z λa f=>Am 6 9 Z f Z λa f=>CK 7 Z λa1 w a2 m a3 a3=>have h1:=rd1 a2 h1;have aI:=rd1 a2 aI;have ac:=rd2 a2 ac;have aH:=od3 a2 aH;Bd aE λa4 a5 aE=>AZ f Z call110 (Wk.Q0 m ac h1 a5) λa6 a7 a8 w a9 m ba a f=> ?_
    obtain⟨bb,rfl,rfl,bc⟩:=ba
    refine have aI:=rd1 a9 aI;have aH:=od3 a9 aH;Aa (a3 a7 [] _ _ a9 m (q_p 8 9 Z f (λ_=>Cy (f.e Z)) λa f=>A4 λbd w be m=>have aI:=rd1 be aI;have bc:=rd1 be bc;have aH:=od3 be aH;Aa (Ag (Af (Ac f Z λa f=>Aa (Bd aE λbf bg aE=> ?_))))))
    refine AH (λa w=>∃bh:LI,bh=bf∧∃(bi:GH) (bj:Value),GLe bd bi∧Fr a 51 [(1,v1),(2,(.bool x2)),(3,pb ad),(7,aA),(8,bj),(9,iv ay),(10,bb)]∧Mem W bi w (ib ad 29 [aa]::aB::H)∧R1 bi bj bh) ?_ ?_
    ·refine Al (AE (λbk a w=>∃bl:LI,∃bm:Int,(bl,bm)=bk∧∃(bn:GH) (bo:Value),GLe bd bn∧Fr a 51 [(1,v1),(2,(.bool x2)),(3,pb ad),(7,aA),(8,bo),(9,iv ay),(10,bb),(11,iv bm)]∧Mem W bn w (ib ad 29 [aa]::aB::H)∧R1 bn bo bl) bg ⟨_,_,Z,_,aC,gr,f.k Z,m,aI⟩ ?_)
     clear bg f m
     rintro bk bp bq br a w ⟨bl,bm,rfl,bn,bo,bs,f,m,bt⟩
     refine have bc:=rd1 bs bc;Ag (Af (Ab f Z λa f=>Ab f Z λa f=>AS underlying39 f Z Z bc λa f=>Ah f Z Z AJ λa f=>Aa ?_))
     rcases Ae bq with⟨bu,bq⟩|⟨bu,bq⟩
     ·refine An f Z bu (Ao (Ag (Al (Ak (Ab f Z λa f=>Ab f Z λa f=>Ab f Z λa f=>Bd bq λbv bw bq=>Bt T39 f Z Z Z bc bw λbx bz a bA bB f=> ?_)))))
      subst bB
      refine AL m Pl2 f Z Z bA λa f=>Bd bq λbC bD bq=>AZ f Z call69 (Wk.g m bt bD) λbE bF bG w bH m bI a f=> ?_
      obtain⟨bJ,rfl,rfl,bK⟩:=bI
      refine Ac f Z λa f=>Aa (Ak (Ab f Z λa f=>Ah f Z Z Ax λa f=>Ac f Z λa f=>Aa ?_))
      obtain rfl:=sj bq
      exact⟨_,Z,_,_,Z,_,bJ,(gt bs bH),f.k Z,m,bK⟩
     ·refine Ai f Z bu (AB Z ?_)
      obtain rfl:=sj bq
      obtain rfl:=br _ rfl
      exact⟨_,Z,_,bo,bs,f.k Z,m,bt⟩
    ·rintro a w ⟨bh,rfl,bi,bj,bL,f,m,bM⟩
     refine have bc:=rd1 bL bc;have aH:=od3 bL aH;Ak (Ab f Z λa f=>Ab f Z λa f=>AX (R:=R1) (xs:=([a4]:LL)) (RSl.one _) m T27 f Z Z Z (by decide) (All2.cons bc (All2.nil _)) λbN bO w a m bP f=>Bd aE λbQ bR aE=>Be (RSl.one _) 2 m aH Z T27 Z (by decide) f Z Z Z (Ow.src (j:=0) bP m Z) bR λbS bT w a m bU f=>Ac f Z λa f=>Aa (Ak (Ab f Z λa f=>Ah f Z Z Ax λa f=>Ac f Z λa f=>Aa (have m:=m.fr 2;have m:=m.fr 2;have m:=m.eraseAt 2;?_))))
     obtain rfl:=sj aE
     exact⟨_,Z,_,_,_,Z,_,bT,bS,bj,(gt aG (gt aT (gt a2 (gt a9 (gt be bL))))),f.k Z,m,bU,bM⟩
  ·refine Ai f Z aJ (AB Z (have m:=m.fr 1;have m:=m.eraseAt 1;?_))
   obtain rfl:=sj aE
   obtain rfl:=aF _ rfl
   exact⟨_,Z,_,aA,aB,aG,f.k Z,m,aH⟩
 ·rintro a w ⟨ap,rfl,aq,ar,au,bV,f,m,bW⟩
  refine Af (Ab f Z λa f=>Ac f Z λa f=>Aa (Aq ?_))
  obtain rfl:=sj hd
  exact⟨[ar],f.g Z,f.d,_,[au],(gt al bV),m,_,_,Z,Z,bW⟩
theorem Wk.I {W:World}(n:Nat):∀{w:World} {G:GH} {H:List Itm} {aa v1 v2:Value} {it2:Itm} {ab:LL} {x1:LI} {x2:(List (Int×Int×LI))} (m:Mem W G w (it2::H)) (ac:R2 G aa ab) (h1:R1 G v1 x1) (o2:OwPt 42 G it2 v2 x2) {y:((List (Int×Int×LI)))×Bool} (hd:D.I n ab x1 x2=some y),
  Calls prog 88 #[(.agg #[aa]),v1,v2] w (Res W G H (λG' Ho v=>∃r0:Value,∃i0:Itm,Ho=[i0]∧v= .tuple #[r0,(.bool y.2)]∧OwPt 42 G' i0 r0 y.1)):=by
 induction n with
 |zero=>intros;rename_i hd;simp[D.I] at hd
 |succ fuel ih=>
  intro w G H aa v1 v2 it2 ab x1 x2 m ac h1 o2 y hd
  refine Aw (args:=[(.agg #[aa]),v1,v2]) (N:=70) [.tmp 6,.tmp 7] func88 Z Z (lb Z) Z λa f=> ?_
  unfold D.I at hd
  refine Af (Bv (cs:=[aa]) m f Z Z Z λad w a m f=>Ac f Z λa f=>Ac f Z λa f=>Aa (Ag (Af (Ab f Z λa f=>AS underlying39 f Z Z h1 λa f=>Ah f Z Z Bf λa f=>Aa ?_))))
  rcases Ae hd with⟨ae,hd⟩|⟨ae,hd⟩
  ·refine An f Z ae (Af (Ab f Z λa f=>Ab f Z λa f=>Bd hd λaf ag hd=>Bt T39 f Z Z Z h1 ag λah ai a aj ak f=> ?_))
   subst ak
   refine AL m Pl2 f Z Z aj λa f=> ?_
   have al:∀w,(Instr.build 42 #[(0,iv 1),(1,iv af)]).run prog w= .ok (.agg #[iv 1,iv af,sn]) w:=by intro w;simp[Instr.build,Instr.fill,B6,BT,BB,BO,Bx,B5,BV]
   refine Cr f Z Z al λa f=>have am:=RSl.nil R0 G;E9 (y:=(1,af,([]:LI))) m T33 f Z Z am λan ao w a m ap f=>Bd hd λaq ar hd=>D7 (z:=(.agg #[iv 0,iv 0,sn])) 2 0 m o2 Z ap Z (by simp) T33 Z (by decide) f Z Z Z ar λau av w a m aw f=>Ac f Z λa f=>Ac f Z λa f=>Aa (Aq (have m:=m.fr 2;have m:=m.eraseAt 2;have m:=m.eraseAt 1;?_))
   obtain rfl:=sj hd
   exact⟨[av,(.bool true)],⟨f.get _ _ Z,f.get _ _ Z,trivial⟩,f.d,_,[au],gr,m,_,_,Z,Z,aw⟩
  ·refine Ai f Z ae (Ao (Af (Ac f Z λa f=>Az (AN 0 0 (ds:=[aa]) m AU f Z Z Z Z Z λa f=>Ab f Z λa f=>Bd hd λax ay hd=>BS f Z call97 (Wk.h0 m ac h1 ay) λaz aA aB w aC m aD a f=>have ac:=rd2 aC ac;have h1:=rd1 aC h1;have o2:=OwPt.mono ptT aC o2;Ac f Z λa f=>Aa (Ag (Af (Ab f Z λa f=>Bz 0 m aD Z underlying27 f Z Z λa f=>Ah f Z Z Bf λa f=>Aa (Bd hd λaE aF hd=> ?_))))))))
   refine AH (λa w=>∃aG:Int,∃aH:LL,(aG,aH)=aE∧∃(aI:GH) (aJ:Value) (aK:Itm),GLe aB aI∧Fr a 70 [(2,v2),(3,pb ad),(8,iv aG),(9,aJ)]∧Mem W aI w (ib ad 29 [aa]::it2::aK::H)∧Ow R1 39 aI aK aJ aH) ?_ ?_
   ·rcases Ae aF with⟨aL,aF⟩|⟨aL,aF⟩
    ·refine An f Z aL (Af (Ac f Z λa f=>Aa (Ak (AN 1 0 (ds:=[aa]) m AU f Z Z Z Z Z λa f=>Ab f Z λa f=>Bd aF λaM aN aF=>BS f Z call97 (Wk.h0 m ac h1 aN) λaO aP aQ w aR m aS a f=>have o2:=OwPt.mono ptT aR o2;Ac f Z λa f=>Aa (have m:=m.fr 3;have m:=m.fr 3;have m:=m.eraseAt 3;?_)))))
     obtain rfl:=sj aF
     exact⟨_,_,Z,_,aO,aP,aR,f.k Z,m,aS⟩
    ·refine Ai f Z aL (Ao (have m:=m.fr 2;have m:=m.fr 2;?_))
     obtain rfl:=sj aF
     exact⟨_,_,Z,_,az,aA,gr,f.k Z,m,aD⟩
   ·rintro a w ⟨aG,aH,rfl,aI,aJ,aK,aT,f,m,aU⟩
    refine have ac:=rd2 aT ac;have o2:=OwPt.mono ptT aT o2;Ag (Af (Ab f Z λa f=>Bz 2 m aU Z underlying27 f Z Z λa f=>Ah f Z Z Bf λa f=>Aa ?_))
    rcases Ae hd with⟨aV,hd⟩|⟨aV,hd⟩
    ·refine An f Z aV (Af (DQ m T33 f Z λaW aX w a m aY f=>Ac f Z λa f=>Ac f Z λa f=>Aa (Aq (have m:=m.eraseAt 3;have m:=m.eraseAt 2;have m:=m.eraseAt 1;?_))))
     obtain rfl:=sj hd
     exact⟨[aX,(.bool false)],⟨f.get _ _ Z,f.get _ _ Z,trivial⟩,f.d,_,[aW],(gt aC aT),m,_,_,Z,Z,aY⟩
    ·refine Ai f Z aV (Ao (Af (AX (R:=R0) (xs:=([]:LI)) (RI.one _) m T39 f Z Z Z (by decide) (All2.nil _) λaZ a0 w a m a1 f=>Ac f Z λa f=>Aa (Ag (Af (Ac f Z λa f=>Aa (Bd hd λa2 a3 hd=> ?_)))))))
     refine AH (λa w=>∃q_204':(List (Int×Int×LI))×LI,a2= .inl q_204'∧∃a4:List (Int×Int×LI),∃a5:LI,(a4,a5)=q_204'∧∃(a6:GH) (a7:Value) (a8:Itm) (a9:Value) (ba:Itm),GLe aI a6∧Fr a 70 [(2,a7),(8,iv aG),(10,a9)]∧Mem W a6 w (a8::ba::H)∧OwPt 42 a6 a8 a7 a4∧Ow R0 2 a6 ba a9 a5) ?_ ?_
     ·refine Al (have m:=m.fr 3;have m:=m.fr 3;have m:=m.fr 3;AE (λbb a w=>∃bc:List (Int×Int×LI),∃bd:LI,∃be:Int,(bc,bd,be)=bb∧∃(bf:GH) (bg:Value) (bh:Itm) (bi:Value) (bj:Itm),GLe aI bf∧Fr a 70 [(2,bg),(3,pb ad),(8,iv aG),(9,aJ),(10,bi),(11,iv be)]∧Mem W bf w (ib ad 29 [aa]::bh::aK::bj::H)∧OwPt 42 bf bh bg bc∧Ow R0 2 bf bj bi bd) a3 ⟨_,_,_,Z,_,v2,it2,a0,aZ,gr,f.k Z,m,o2,a1⟩ ?_)
      clear a3 f m
      rintro bb bk bl bm a w ⟨bc,bd,be,rfl,bf,bg,bh,bi,bj,bn,f,m,bo,bp⟩
      refine have ac:=rd2 bn ac;have aU:=od3 bn aU;Ag (Af (Ab f Z λa f=>Ab f Z λa f=>Bz 2 m aU Z underlying27 f Z Z λa f=>Ah f Z Z AJ λa f=>Aa ?_))
      rcases Ae bl with⟨bq,bl⟩|⟨bq,bl⟩
      ·refine An f Z bq (Ao (Ag (Al (Ag (have m:=m.fr 1;k_drawE [bh] (ib ad 29 [aa]::aK::bj::H) 11 AR (by kernel_rfl) m (By (i:=0) (ds:=[aa]) 11 0 AU Z Z Z Z (by kernel_rfl) Z f Z Z Z λa f=>Am 1 11 Z f Z λa f=>Am 2 11 Z f Z λa f=>Bd bl λbr bs bl=>A3 3 11 2 m aU T27 bs Z f Z Z λbt a bu f=>Bg 4 11 1 aU Bu bu bs Z f Z λbv a bw f=>Am 5 11 Z f Z λa f=>CK 6 Z λbx w bz m bA bA=>have ac:=rd2 bz ac;have bw:=rd1 bz bw;have bo:=OwPt.mono ptT bz bo;have bp:=od1 bz bp;Bd bl λbB bC bl=>AZ f Z call88 (ih m ac bw bo bC) λbD bE bF w bG m bH a f=> ?_))))))
       obtain⟨bI,bJ,rfl,rfl,bK⟩:=bH
       refine have bp:=od1 bG bp;Aa (bA bE [bJ] _ _ bG m (Am 7 11 Z f Z λa f=>q_p 8 11 Z f (λ_=>A2 (f.e Z) Z) λa f=>q_p 9 11 Z f (λ_=>A2 (f.e Z) Z) λa f=>q_p 10 11 Z f (λ_=>Cy (f.e Z)) λa f=>A4 λbL w bM m=>have bK:=OwPt.mono ptT bM bK;have bp:=od1 bM bp;Ac f Z λa f=>Aa (Ag (Af (Ab f Z λa f=>l_o f (Bc (f.e Z)) λa f=>Aa ?_)))))
       rcases Ae bl with⟨bN,bl⟩|⟨bN,bl⟩
       ·refine An f Z bN (Af (DQ m T33 f Z λbO bP w a m bQ f=>Ac f Z λa f=>Ac f Z λa f=>Aa (Aq (have m:=m.eraseAt 4;have m:=m.eraseAt 3;have m:=m.eraseAt 2;have m:=m.eraseAt 1;?_))))
        obtain rfl:=sj bl
        obtain rfl:=bm _ rfl
        obtain rfl:=sj hd
        exact⟨[bP,(.bool false)],⟨f.get _ _ Z,f.get _ _ Z,trivial⟩,f.d,_,[bO],(gt aC (gt aT (gt bn (gt bz (gt bG bM))))),m,_,_,Z,Z,bQ⟩
       ·refine Ai f Z bN (Ao (Af (Ab f Z λa f=>Ac f Z λa f=>Aa (Ak (Ab f Z λa f=>Ab f Z λa f=>l_ownP_len 0 m bK Z underlying33 f Z Z λa f=>Ah f Z Z AT λa f=>AX (R:=R0) (xs:=([(i64.wrap ((bB.1.length:Int)-1))]:LI)) (RI.one _) m T39 f Z Z Z (by decide) (All2.cons Z (All2.nil _)) λbR bS w a m bT f=>Bd bl λbU bV bl=>Be (RI.one _) 4 m bp Z T39 Z (by decide) f Z Z Z (Ow.src (j:=0) bT m Z) bV λbW bX w a m bY f=>Ac f Z λa f=>Aa (Ak (Ab f Z λa f=>Ah f Z Z Ax λa f=>Ac f Z λa f=>Aa (have m:=m.fr 4;have m:=m.fr 4;have m:=m.fr 3;have m:Mem W bL w (ib ad 29 [aa]::bJ::aK::bW::bR::H):=m.fr 4;have m:=m.eraseAt 4;?_))))))))
        obtain rfl:=sj bl
        exact⟨_,Z,_,_,_,Z,_,bI,bJ,bX,bW,(gt bn (gt bz (gt bG bM))),f.k Z,m,bK,bY⟩
      ·refine Ai f Z bq (AB Z (have m:=m.fr 3;have m:=m.fr 2;have m:=m.eraseAt 3;have m:=m.eraseAt 2;?_))
       obtain rfl:=sj bl
       obtain rfl:=bm _ rfl
       exact⟨_,Z,_,_,Z,_,bg,bh,bi,bj,bn,f.k Z,m,bo,bp⟩
     ·rintro a w ⟨_,rfl,a4,a5,rfl,a6,a7,a8,a9,ba,bZ,f,m,b0,b1⟩
      refine Af (Ab f Z λa f=>Ab f Z λa f=>Ab f Z λa f=> ?_)
      have b2:∀w,(Instr.build 42 #[(0,iv aG),(2,a9)]).run prog w= .ok (.agg #[iv aG,iv 0,a9]) w:=by intro w;simp[Instr.build,Instr.fill,(Ow.cells 1 m b1 rfl),B6,BT,BB,BO,Bx,B5,BV]
      refine Cr f Z Z b2 λa f=>have m:=m.fr 1;?_
      obtain⟨b3,b4,m,b5⟩:=Ow.stamp (RI.mono _) b1 m
      refine have b0:=OwPt.mono ptT b4 b0;E9 (y:=(aG,0,a5)) m T33 f Z Z b5 λb6 b7 w a m b8 f=>Bd hd λb9 ca hd=>D7 (z:=(.agg #[iv 0,iv 0,sn])) 1 0 m b0 Z b8 Z (by simp) T33 Z (by decide) f Z Z Z ca λcb cc w a m cd f=>Ac f Z λa f=>Ac f Z λa f=>Aa (Aq (have m:=m.fr 1;have m:=m.eraseAt 1;?_))
      obtain rfl:=sj hd
      exact⟨[cc,(.bool true)],⟨f.get _ _ Z,f.get _ _ Z,trivial⟩,f.d,_,[cb],(gt aC (gt aT (gt bZ b4))),m,_,_,Z,Z,cd⟩
theorem Wk.l {aa v1 v2:Value}{it2:Itm}{ab:LL}{x1:LI}{x2:(List (Int×Int×LI))}(m:Mem W G w (it2::H))(ac:R2 G aa ab)(h1:R1 G v1 x1)(o2:OwPt 42 G it2 v2 x2){y:((List (Int×Int×LI)))×Bool}(hd:D.l ab x1 x2=some y):
  Calls prog 88 #[(.agg #[aa]),v1,v2] w (Res W G H (λG' Ho v=>∃r0:Value,∃i0:Itm,Ho=[i0]∧v= .tuple #[r0,(.bool y.2)]∧OwPt 42 G' i0 r0 y.1)):=by
 exact Wk.I BP m ac h1 o2 hd
theorem Wk.v1 {aa:Value}{ab:LL}(m:Mem W G w (H))(ac:R2 G aa ab){y:((List (Int×Int×LI)))×Bool}(hd:D.v1 ab=some y):
  Calls prog 53 #[(.agg #[aa])] w (Res W G H (λG' Ho v=>∃r0:Value,∃i0:Itm,Ho=[i0]∧v= .tuple #[r0,(.bool y.2)]∧OwPt 42 G' i0 r0 y.1)):=by
 refine Aw (args:=[(.agg #[aa])]) (N:=21) [.tmp 2,.tmp 3] func53 Z Z (lb Z) Z λa f=> ?_
 unfold D.v1 at hd
 refine Af (Bv (cs:=[aa]) m f Z Z Z λad w a m f=>Ac f Z λa f=>Ac f Z λa f=>Aa (Ag (Af (AN 0 0 (ds:=[aa]) m AU f Z Z Z Z Z λa f=>Bd hd λae af hd=>A1 f Z call32 (Wk.q m ac af) λag w ah m a f=>have ac:=rd2 ah ac;l_o f (Bc (f.e Z)) λa f=>Ab f Z λa f=> ?_))))
 refine Bi 5 (λa w=>∃ai,GLe ag ai∧Mem W ai w (ib ad 29 [aa]::H)∧Fr a 21 [(0,(.agg #[aa])),(1,pb ad),(4,(.agg #[aa])),(5,(.bool ae)),(6,(.bool (!ae))),(7,(.bool (!ae))),(12,(.bool ((!ae)||((ab.length:Int)==0))))]) ?_ ?_
 ·rcases Bool.eq_false_or_eq_true (!ae) with aj|aj
  ·exact Au f aj λa f=>Au f aj λa f=>Au f aj λa f=>Au f aj λa f=>l_o f (AD (f.e Z) aj (f.e Z)) λa f=>⟨_,gr,m,f.weak ⟨Z,Z,Z,Z,Z,Z,by rw[aj];rfl,trivial⟩⟩
  ·exact As f aj (Bn underlying29 Z sizeOf27 f Z λa f=>As f aj (AI 0 0 m BM f Z Z Z Z λa f=>As f aj (AS underlying27 f Z Z ac λa f=>As f aj (Ah f Z Z Bf λa f=>l_o f (AC (f.e Z) aj (f.e Z)) λa f=>⟨_,gr,m,f.weak ⟨Z,Z,Z,Z,Z,Z,by rw[aj];rfl,trivial⟩⟩))))
 ·rintro a w ⟨ai,ak,m,f⟩
  refine have ac:=rd2 ak ac;Aa ?_
  rcases Ae hd with⟨al,hd⟩|⟨al,hd⟩
  ·refine An f Z al (Af (DQ m T33 f Z λam an w a m ao f=>Ac f Z λa f=>Ac f Z λa f=>Aa (Aq (have m:=m.eraseAt 1;?_))))
   obtain rfl:=sj hd
   exact⟨[an,(.bool false)],⟨f.get _ _ Z,f.get _ _ Z,trivial⟩,f.d,_,[am],(gt ah ak),m,_,_,Z,Z,ao⟩
  ·refine Ai f Z al (Ao (Ag (Bd hd λap aq hd=> ?_)))
   refine AH (λa w=>∃ar:List (Int×Int×LI),∃au:Bool,(ar,au)=ap∧∃(av:GH) (aw:Value) (ax:Itm),GLe ai av∧Fr a 21 [(2,aw),(3,(.bool au))]∧Mem W av w (ax::H)∧OwPt 42 av ax aw ar) ?_ ?_
   ·refine A8 7 AR (by kernel_rfl) m (By (i:=0) (ds:=[aa]) 7 0 AU Z Z Z Z (by kernel_rfl) Z f Z Z Z λa f=>By (i:=1) (ds:=[aa]) 7 0 AU Z Z Z Z (by kernel_rfl) Z f Z Z Z λa f=>q_two (i:=2) (j:=3) (l1:= #[true,true,true,false,false,false,false,false,false]) (l2:= #[true,true,false,true,false,false,false,false,false]) Z Z (by kernel_rfl) Z Z ?_ ?_)
    ·intro ay w az m aA aA
     refine have ac:=rd2 az ac;Bd aq λaB aC aq=>BS f Z call36 (Wk.t m ac aC) λaD aE aF w aG m aH a f=>have ac:=rd2 aG ac;Aa (aA aF [aE] _ _ aG m (CK 3 Z λaI w aJ m aK aK=>have ac:=rd2 aJ ac;have aH:=od1 aJ aH;DQ m T33 f Z λaL aM w a m aN f=>Aa (aK aI [aL,aE] _ _ gr m (CK 4 Z λaO w aP m aQ aQ=>have ac:=rd2 aP ac;have aN:=OwPt.mono ptT aP aN;have aH:=od1 aP aH;have m:=m.fr 1;?_))))
     obtain⟨aR,aS,m,aT⟩:=Ow.stamp (RI.mono _) aH m
     refine have ac:=rd2 aS ac;have aN:=OwPt.mono ptT aS aN;Bd aq λaU aV aq=>AZ f Z call88 (Wk.l m ac aT aN aV) λaW aX aY w aZ m a0 a f=> ?_
     obtain⟨a1,a2,rfl,rfl,a3⟩:=a0
     refine Aa (aQ aX [a2] _ _ (gt aS aZ) m (q_p 5 7 Z f (λ_=>A2 (f.e Z) Z) λa f=>q_p 6 7 Z f (λ_=>A2 (f.e Z) Z) λa f=>A4 λa4 w a5 m=>have a3:=OwPt.mono ptT a5 a3;Ac f Z λa f=>Ac f Z λa f=>Aa (have m:=m.eraseAt 1;?_)))
     obtain rfl:=sj aq
     exact⟨_,_,Z,_,a1,a2,(gt az (gt aG (gt aJ (gt aP (gt aS (gt aZ a5)))))),f.k Z,m,a3⟩
    ·intro aI w aJ m aK aK
     refine Bd aq λaB aC aq=>Bd aq λaU aV aq=>have ac:=rd2 aJ ac;DQ m T33 f Z λaL aM w a m aN f=>Aa (aK aI [aL] _ _ gr m (CK 2 Z λay w az m aA aA=>have ac:=rd2 az ac;have aN:=OwPt.mono ptT az aN;BS f Z call36 (Wk.t m ac aC) λaD aE aF w aG m aH a f=>have ac:=rd2 aG ac;have aN:=OwPt.mono ptT aG aN;Aa (aA aF [aE,aL] _ _ aG m (CK 4 Z λaO w aP m aQ aQ=>have ac:=rd2 aP ac;have aH:=od1 aP aH;have aN:=OwPt.mono ptT aP aN;?_))))
     obtain⟨aR,aS,m,aT⟩:=Ow.stamp (RI.mono _) aH m
     refine have ac:=rd2 aS ac;have aN:=OwPt.mono ptT aS aN;AZ f Z call88 (Wk.l m ac aT aN aV) λaW aX aY w aZ m a0 a f=> ?_
     obtain⟨a1,a2,rfl,rfl,a3⟩:=a0
     refine Aa (aQ aX [a2] _ _ (gt aS aZ) m (q_p 5 7 Z f (λ_=>A2 (f.e Z) Z) λa f=>q_p 6 7 Z f (λ_=>A2 (f.e Z) Z) λa f=>A4 λa4 w a5 m=>have a3:=OwPt.mono ptT a5 a3;Ac f Z λa f=>Ac f Z λa f=>Aa (have m:=m.eraseAt 1;?_)))
     obtain rfl:=sj aq
     exact⟨_,_,Z,_,a1,a2,(gt aJ (gt az (gt aG (gt aP (gt aS (gt aZ a5)))))),f.k Z,m,a3⟩
   ·rintro a w ⟨ar,au,rfl,av,aw,ax,a6,f,m,a7⟩
    refine Aq ?_
    obtain rfl:=sj hd
    exact⟨[aw,(.bool au)],⟨f.get _ _ Z,f.get _ _ Z,trivial⟩,f.d,_,[ax],(gt ah (gt ak a6)),m,_,_,Z,Z,a7⟩
theorem Wk.Z0 {aa:Value}{ab:LL}(m:Mem W G w (H))(ac:R2 G aa ab){y:Bool}(hd:D.Z0 ab=some y):
  Calls prog 18 #[(.agg #[aa])] w (Res W G H (λ_ Ho v=>Ho=[]∧v=(.bool y))):=by
 refine Aw (args:=[(.agg #[aa])]) (N:=11) [.tmp 2] func18 Z Z (lb Z) Z λa f=> ?_
 unfold D.Z0 at hd
 refine Af (Bv (cs:=[aa]) m f Z Z Z λad w a m f=>Ac f Z λa f=>Az (AN 0 0 (ds:=[aa]) m AU f Z Z Z Z Z λa f=>Bd hd λae af hd=>AZ f Z call53 (Wk.v1 m ac af) λag ah ai w aj m ak a f=> ?_))
 obtain⟨al,am,rfl,rfl,an⟩:=ak
 refine Ab f Z λa f=>l_o f (A2 (f.e Z) Z) λa f=>l_o f (A2 (f.e Z) Z) λa f=>Ac f Z λa f=>Ac f Z λa f=>Az (Ab f Z λa f=>Ac f Z λa f=>Aa (Aq (have m:=m.dp 2;?_)))
 obtain rfl:=sj hd
 exact⟨[(.bool ae.2)],f.g Z,f.d,_,[],aj,m,Z,Z⟩
set_option maxHeartbeats 1000000 in
theorem Wk.n1 {v0:Value}{x0:LI}(hW:BD W)(m:Mem W G w (H))(h0:RSl (RI .u8) G v0 x0){y:Bool}(hd:D.n1 x0=some y):
  Calls prog 3 #[v0] w (Res W G H (λ_ Ho v=>Ho=[]∧v=(.bool y))):=by
 refine Aw (args:=[v0]) (N:=116) [.tmp 2] func3 Z Z (lb Z) Z λa f=> ?_
 unfold D.n1 at hd
 refine Af (Ac f Z λa f=>Aa (Ag (Af (Ab f Z λa f=>Bd hd λaa ab hd=>A1 f Z call4 (Wk.i1 m h0 ab) λac w ad m a f=>have h0:=rd1 ad h0;Aa ?_))))
 rcases Ae hd with⟨ae,hd⟩|⟨ae,hd⟩
 ·refine An f Z ae (Af (Ac f Z λa f=>Aa (Aq ?_)))
  obtain rfl:=sj hd
  exact⟨[(.bool true)],f.g Z,f.d,_,[],ad,m,Z,Z⟩
 ·refine Ai f Z ae (Ao (Af (Ab f Z λa f=>Bd hd λaf ag hd=>AZ f Z call5 (Wk.y0 m h0 ag) λah ai aj w ak m al a f=> ?_)))
  obtain⟨am,an,rfl,rfl,ao⟩:=al
  refine Ac f Z λa f=>Az (Ab f Z λa f=>Bd hd λap aq hd=>AZ f Z call6 (Wk.n0 m ao aq) λar au av w aw m ax a f=> ?_)
  obtain⟨ay,az,aA,rfl,rfl,aB,aC⟩:=ax
  refine Bj (cs:=[sn]) zeroValue29 m f Z Z λaD w a m f=>AA 0 0 (ds:=[ay]) m sizeOf29 f Z Z Z (Ay (Ow.one1 1 m aB Z) AQ) Z (lb Z) Z λw m=>Aa (Ag (Af (Ab f Z λa f=>have m:=m.fr 2;Bd hd λaE aF hd=>AZ f Z call7 (Wk.j m aC aF) λaG aH aI w aJ m aK a f=> ?_)))
  obtain⟨aL,rfl,rfl,aM⟩:=aK
  refine have aB:=od3 aJ aB;Ah f Z Z Bf λa f=>Aa (Bd hd λaN aO hd=> ?_)
  refine AH (λa w=>∃aP:LL,aP=aN∧∃(aQ:GH) (aR:Value) (aS:Itm),GLe aH aQ∧Fr a 116 [(4,pb aD)]∧Mem W aQ w (ib aD 29 [aR]::aS::H)∧Ow R1 39 aQ aS aR aP) ?_ ?_
  ·rcases Ae aO with⟨aT,aO⟩|⟨aT,aO⟩
   ·refine An f Z aT (Ak (Ab f Z λa f=>Bd aO λaU aV aO=>AZ f Z call8 (Wk.o0 m aM aV) λaW aX aY w aZ m a0 a f=> ?_))
    obtain⟨a1,a2,a3,rfl,rfl,a4,a5⟩:=a0
    refine AA 2 0 (ds:=[a1]) m sizeOf29 f Z Z Z (Ay (Ow.one1 0 m a4 Z) AQ) Z (lb Z) Z λw m=>Aa (have m:=m.fr 2;have m:=m.eraseAt 3;have m:=m.eraseAt 2;?_)
    obtain rfl:=sj aO
    exact⟨_,Z,_,a1,a2,aZ,f.k Z,m,a4⟩
   ·refine Ai f Z aT (Ao (have m:=m.fr 2;have m:=m.fr 2;have m:=m.eraseAt 2;?_))
    obtain rfl:=sj aO
    exact⟨_,Z,_,ay,az,gr,f.k Z,m,aB⟩
  ·rintro a w ⟨aP,rfl,aQ,aR,aS,a6,f,m,a7⟩
   refine Af (AN 0 0 (ds:=[aR]) m AU f Z Z Z Z Z λa f=>have m:=m.fr 1;?_)
   obtain⟨a8,a9,m,ba⟩:=Ow.stamp (RSl.mono (RI.mono _)) a7 m
   refine Bd hd λbb bc hd=>AZ f Z call9 (Wk.b0 hW m ba bc) λbd be bf w bg m bh a f=> ?_
   obtain⟨bi,bj,rfl,rfl,bk⟩:=bh
   refine have ba:=rd2 bg ba;Ab f Z λa f=>l_o f (A2 (f.e Z) Z) λa f=>l_o f (A2 (f.e Z) Z) λa f=>Ac f Z λa f=>Ac f Z λa f=>Aa (Ag (Af (Ab f Z λa f=>l_o f (Bc (f.e Z)) λa f=>Ab f Z λa f=>Bd hd λbl bm hd=> ?_)))
   refine Bi 5 (λa w=>∃bn,GLe be bn∧Mem W bn w (bj::ib aD 29 [aR]::H)∧Fr a 116 [(4,pb aD),(5,bi),(6,(.bool bb.2)),(31,(.bool bb.2)),(32,(.bool (!bb.2))),(33,(.bool (!bb.2))),(38,(.bool bl))]) ?_ ?_
   ·rcases Ae bm with⟨bo,bm⟩|⟨bo,bm⟩
    ·refine Au f bo λa f=>Au f bo λa f=>Au f bo λa f=>Au f bo λa f=>l_o f (AD (f.e Z) bo (f.e Z)) λa f=> ?_
     obtain rfl:=sj bm
     exact⟨_,gr,m,f.k Z⟩
    ·refine As f bo (AN 1 0 (ds:=[aR]) m AU f Z Z Z Z Z λa f=>As f bo (Ab f Z λa f=>As f bo (Bd bm λbp bq bm=>AZ f Z call10 (OwPt.lendCall ptT 0 bk m Z (λbr bs m bt=>Wk.u0 m (rd2 bs ba) bt bq) (λ_ _ _ _ h=>h)) λbu bv bw w bx m bz a f=> ?_)))
     obtain⟨rfl,rfl⟩:=bz
     refine have bk:=OwPt.mono ptT bx bk;As f bo (l_o f (Bc (f.e Z)) λa f=>l_o f (AC (f.e Z) bo (f.e Z)) λa f=> ?_)
     obtain rfl:=sj bm
     exact⟨_,bx,m,f.k Z⟩
   ·rintro a w ⟨bn,bA,m,f⟩
    refine have bk:=OwPt.mono ptT bA bk;have ba:=rd2 bA ba;Ab f Z λa f=>Bd hd λbB bC hd=> ?_
    refine Bi 5 (λa w=>∃bD,GLe bn bD∧Mem W bD w (bj::ib aD 29 [aR]::H)∧Fr a 116 [(4,pb aD),(5,bi),(6,(.bool bb.2)),(31,(.bool bb.2)),(32,(.bool (!bb.2))),(33,(.bool (!bb.2))),(38,(.bool bl)),(39,(.bool bl)),(44,(.bool bB))]) ?_ ?_
    ·rcases Ae bC with⟨bE,bC⟩|⟨bE,bC⟩
     ·refine Au f bE λa f=>Au f bE λa f=>Au f bE λa f=>Au f bE λa f=>l_o f (AD (f.e Z) bE (f.e Z)) λa f=> ?_
      obtain rfl:=sj bC
      exact⟨_,gr,m,f.k Z⟩
     ·refine As f bE (AN 1 0 (ds:=[aR]) m AU f Z Z Z Z Z λa f=>As f bE (Ab f Z λa f=>As f bE (Bd bC λbF bG bC=>AZ f Z call11 (OwPt.lendCall ptT 0 bk m Z (λbH bI m bJ=>Wk.C0 hW m (rd2 bI ba) bJ bG) (λ_ _ _ _ h=>h)) λbK bL bM w bN m bO a f=> ?_)))
      obtain⟨rfl,rfl⟩:=bO
      refine have bk:=OwPt.mono ptT bN bk;As f bE (l_o f (Bc (f.e Z)) λa f=>l_o f (AC (f.e Z) bE (f.e Z)) λa f=> ?_)
      obtain rfl:=sj bC
      exact⟨_,bN,m,f.k Z⟩
    ·rintro a w ⟨bD,bP,m,f⟩
     refine have bk:=OwPt.mono ptT bP bk;have ba:=rd2 bP ba;Aa ?_
     rcases Ae hd with⟨bQ,hd⟩|⟨bQ,hd⟩
     ·refine An f Z bQ (Af (Ac f Z λa f=>Aa (Aq (have m:=m.dp 2;?_))))
      obtain rfl:=sj hd
      exact⟨[(.bool false)],f.g Z,f.d,_,[],(gt ad (gt ak (gt aw (gt aJ (gt a6 (gt a9 (gt bg (gt bA bP)))))))),m,Z,Z⟩
     ·refine Ai f Z bQ (Ao (Af (Ac f Z λa f=>Az (AN 1 0 (ds:=[aR]) m AU f Z Z Z Z Z λa f=>Bd hd λbR bS hd=>BS f Z call12 (Wk.U m ba bS) λbT bU bV w bW m bX a f=>have ba:=rd2 bW ba;have bk:=OwPt.mono ptT bW bk;Ac f Z λa f=>Aa (Ag (Af (Ac f Z λa f=>Aa (Bd hd λbY bZ hd=> ?_))))))))
      refine AH (λa w=>∃b0:Int,b0=bY∧∃(b1:GH),GLe bV b1∧Fr a 116 [(4,pb aD),(5,bi),(7,iv b0)]∧Mem W b1 w (ib aD 29 [aR]::bj::H)) ?_ ?_
      ·refine Al (have m:=m.fr 1;have m:=m.fr 2;AE (λb2 a w=>∃b3:Int,∃b4:Int,(b3,b4)=b2∧∃(b5:GH),GLe bV b5∧Fr a 116 [(4,pb aD),(5,bi),(7,iv b3),(8,bT),(9,iv b4)]∧Mem W b5 w (ib aD 29 [aR]::bj::bU::H)) bZ ⟨_,_,Z,_,gr,f.k Z,m⟩ ?_)
       clear bZ f m
       rintro b2 b6 b7 b8 a w ⟨b3,b4,rfl,b5,b9,f,m⟩
       refine have ba:=rd2 b9 ba;have bk:=OwPt.mono ptT b9 bk;have bX:=od3 b9 bX;Ag (Af (Ab f Z λa f=>Ab f Z λa f=>Bz 2 m bX Z underlying27 f Z Z λa f=>Ah f Z Z AJ λa f=>Aa ?_))
       rcases Ae b7 with⟨ca,b7⟩|⟨ca,b7⟩
       ·refine An f Z ca (Ao (Ag (Al (Ag (A8 6 AR (by kernel_rfl) m (By (i:=0) (ds:=[aR]) 6 0 AU Z Z Z Z (by kernel_rfl) Z f Z Z Z λa f=>Am 1 6 Z f Z λa f=>Am 2 6 Z f Z λa f=>Bd b7 λcb cc b7=>A3 3 6 2 m bX T27 cc Z f Z Z λcd a ce f=>Bg 4 6 2 bX Bu ce cc Z f Z λcf a cg f=>Bd b7 λch ci b7=>BZ (i:=5) 6 Z (by kernel_rfl) Z f Z Z Z call13 (λ_ _ w cj m=>Wk.n hW m (rd2 cj ba) (rd1 cj cg) ci) λa f=>A4 λck w cl m=>have bk:=OwPt.mono ptT cl bk;Aa ?_))))))
        rcases Ae b7 with⟨cm,b7⟩|⟨cm,b7⟩
        ·refine An f Z cm (Ak (Ab f Z λa f=>Ah f Z Z Ax λa f=>Ac f Z λa f=>Aa (Ak (Ab f Z λa f=>Ah f Z Z Ax λa f=>Ac f Z λa f=>Aa ?_))))
         obtain rfl:=sj b7
         exact⟨_,Z,_,_,Z,_,(gt b9 cl),f.k Z,m⟩
        ·refine Ai f Z cm (Ao (Ak (Ab f Z λa f=>Ah f Z Z Ax λa f=>Ac f Z λa f=>Aa ?_)))
         obtain rfl:=sj b7
         exact⟨_,Z,_,_,Z,_,(gt b9 cl),f.k Z,m⟩
       ·refine Ai f Z ca (AB Z (have m:=m.eraseAt 2;?_))
        obtain rfl:=sj b7
        obtain rfl:=b8 _ rfl
        exact⟨_,Z,_,b9,f.k Z,m⟩
      ·rintro a w ⟨b0,rfl,b1,cn,f,m⟩
       refine have ba:=rd2 cn ba;have bk:=OwPt.mono ptT cn bk;Af (Ac f Z λa f=>Aa (Ag (Af (Ac f Z λa f=>Aa (have m:=m.fr 1;?_)))))
       obtain⟨co,cp,m,cq⟩:=OwPt.stamp ptT bk m
       refine have ba:=rd2 cp ba;Bd hd λcr ct hd=> ?_
       refine AH (λa w=>∃q_425':(List (Int×Int×LI))×Bool,cr= .inl q_425'∧∃cu:List (Int×Int×LI),∃cv:Bool,(cu,cv)=q_425'∧∃(cw:GH) (cx:Value),GLe co cw∧Fr a 116 [(4,pb aD),(5,cx),(7,iv b0),(10,(.bool cv))]∧Mem W cw w (ib aD 29 [aR]::H)∧RPt cw cx cu) ?_ ?_
       ·refine Al (AE (λcy a w=>∃cz:List (Int×Int×LI),∃cA:Bool,∃cB:Int,(cz,cA,cB)=cy∧∃(cC:GH) (cD:Value),GLe co cC∧Fr a 116 [(4,pb aD),(5,cD),(7,iv b0),(10,(.bool cA)),(11,iv cB)]∧Mem W cC w (ib aD 29 [aR]::H)∧RPt cC cD cz) ct ⟨_,_,_,Z,_,bi,gr,f.k Z,m,cq⟩ ?_)
        clear ct f m
        rintro cy cE cF cG a w ⟨cz,cA,cB,rfl,cC,cD,cH,f,m,cI⟩
        refine have ba:=rd2 cH ba;Ag (Af (Ab f Z λa f=>Ab f Z λa f=>Dl underlying33 f Z Z cI λa f=>Ah f Z Z AJ λa f=>Aa ?_))
        rcases Ae cF with⟨cJ,cF⟩|⟨cJ,cF⟩
        ·refine An f Z cJ (Ao (Ag (Al (Af (Ab f Z λa f=>Ab f Z λa f=>Bd cF λcK cL cF=>BS f Z call14 (Wk.c1 hW m cI cL) λcM cN cO w cP m cQ a f=>have cI:=RPt.mono ptT _ _ _ _ cP cI;have ba:=rd2 cP ba;Ac f Z λa f=>Aa (Ag (Af (AN 1 0 (ds:=[aR]) m AU f Z Z Z Z Z λa f=>Ab f Z λa f=>Bd cF λcR cS cF=>AZ f Z call15 (Ow.lendCall (RI.mono _) 0 cQ m Z (λcT cU m cV=>Wk.Y0 m (rd2 cU ba) cV cS) (λ_ _ _ _ h=>h)) λcW cX cY w cZ m c0 a f=> ?_))))))))
         obtain⟨rfl,rfl⟩:=c0
         refine have cI:=RPt.mono ptT _ _ _ _ cZ cI;have ba:=rd2 cZ ba;l_o f (Bc (f.e Z)) λa f=>Aa ?_
         rcases Ae cF with⟨c1,cF⟩|⟨c1,cF⟩
         ·refine An f Z c1 (Af (Ac f Z λa f=>Aa (Aq (have m:=m.dp 2;?_))))
          obtain rfl:=sj cF
          obtain rfl:=cG _ rfl
          obtain rfl:=sj hd
          exact⟨[(.bool false)],f.g Z,f.d,_,[],(gt ad (gt ak (gt aw (gt aJ (gt a6 (gt a9 (gt bg (gt bA (gt bP (gt bW (gt cn (gt cp (gt cH (gt cP cZ)))))))))))))),m,Z,Z⟩
         ·refine Ai f Z c1 (Ao (Af (Ab f Z λa f=>Ab f Z λa f=>Bd cF λc2 c3 cF=>Cz T33 f Z Z Z cI c3 λc4 c5 a c6 c7 f=>Ct (E:=P3S) (c:=(iv c2.1)) underlying42 Z sizeOf2 (by decide) f Z Z c6 Z λc8 a c9 f=>AL m Pl2 f Z Z c9 λa f=>Ah f Z Z Bf λa f=>Aa ?_)))
          rcases Ae cF with⟨da,cF⟩|⟨da,cF⟩
          ·refine An f Z da (Af (Ac f Z λa f=>Az (AN 1 0 (ds:=[aR]) m AU f Z Z Z Z Z λa f=>Ab f Z λa f=>Ab f Z λa f=>Bd cF λdb dc cF=>AZ f Z call16 (Wk.t0 hW m ba cI dc) λdd de df w dg m dh a f=> ?_)))
           obtain⟨di,dj,rfl,rfl,dk⟩:=dh
           refine have cI:=RPt.mono ptT _ _ _ _ dg cI;Ab f Z λa f=>l_o f (A2 (f.e Z) Z) λa f=>l_o f (A2 (f.e Z) Z) λa f=>Bj (cs:=[sn]) zeroValue29 m f Z Z λdl w a m f=>AA 0 0 (ds:=[di]) m sizeOf29 f Z Z Z (Ay (Ow.one1 1 m dk Z) AQ) Z (lb Z) Z λw m=>Ac f Z λa f=>Aa (Ag (A8 19 AR (by kernel_rfl) m (Am 0 19 Z f Z λa f=>q_p 1 19 Z f (λ_=>Bc (f.e Z)) λa f=>Am 2 19 Z f Z λa f=>Bd cF λdm dn cF=>BQ (fuel':=12) (listed':= #[true,true,true,true,true,true,true,false,false,false,false,false,false,false,false,false,false,false,false]) (λa=>Fr a 116 [(4,pb aD),(5,cD),(7,iv b0),(10,(.bool true)),(11,iv cB),(12,cM),(13,pb dl),(14,(.bool db.2)),(87,(.bool db.2)),(88,(.bool (!db.2))),(89,(.bool (!db.2))),(93,(.bool dm))]) ?_ ?_)))
           ·intro a f
            refine Am 7 19 Z f Z λa f=>Bd cF λdq dr cF=>BQ (fuel':=0) (listed':= #[true,true,true,true,true,true,true,true,true,true,true,true,true,true,true,true,true,true,true]) (λa=>Fr a 116 [(4,pb aD),(5,cD),(7,iv b0),(10,(.bool true)),(11,iv cB),(12,cM),(13,pb dl),(14,(.bool db.2)),(87,(.bool db.2)),(88,(.bool (!db.2))),(89,(.bool (!db.2))),(93,(.bool dm)),(94,(.bool dm)),(105,(.bool dq))]) ?_ ?_
            ·intro a f
             refine A4 λdt w du m=>have cI:=RPt.mono ptT _ _ _ _ du cI;Aa ?_
             rcases Ae cF with⟨dv,cF⟩|⟨dv,cF⟩
             ·refine An f Z dv (Af (Ac f Z λa f=>Aa (Aq (have m:=m.dp 4;?_))))
              obtain rfl:=sj cF
              obtain rfl:=cG _ rfl
              obtain rfl:=sj hd
              exact⟨[(.bool false)],f.g Z,f.d,_,[],(gt ad (gt ak (gt aw (gt aJ (gt a6 (gt a9 (gt bg (gt bA (gt bP (gt bW (gt cn (gt cp (gt cH (gt cP (gt cZ (gt dg du)))))))))))))))),m,Z,Z⟩
             ·refine Ai f Z dv (Ao (Ak (Ab f Z λa f=>Ah f Z Z Ax λa f=>Ac f Z λa f=>Aa (have m:=m.fr 3;have m:=m.fr 3;have m:=m.fr 3;have m:Mem W dt w (ib aD 29 [aR]::dj::cN::ib dl 29 [di]::H):=m.fr 2;have m:=m.eraseAt 3;have m:=m.eraseAt 2;have m:=m.eraseAt 1;?_))))
              obtain rfl:=sj cF
              exact⟨_,Z,_,_,_,Z,_,cD,(gt cH (gt cP (gt cZ (gt dg du)))),f.k Z,m,cI⟩
            ·intro dw
             rcases Ae dr with⟨dx,dr⟩|⟨dx,dr⟩
             ·refine Ap 8 19 Z f dx λa f=>Ap 9 19 Z f dx λa f=>Ap 10 19 Z f dx λa f=>Ap 11 19 Z f dx λa f=>Ap 12 19 Z f dx λa f=>Ap 13 19 Z f dx λa f=>Ap 14 19 Z f dx λa f=>Ap 15 19 Z f dx λa f=>Ap 16 19 Z f dx λa f=>Ap 17 19 Z f dx λa f=>q_p 18 19 Z f (λ_=>AD (f.e Z) dx (f.e Z)) λa f=> ?_
              obtain rfl:=sj dr
              exact dw _ (f.k Z)
             ·refine Cd (hw:=wo f dx) 8 19 underlying29 Z sizeOf27 Z f Z λa f=>B3 (hw:=wo f dx) 9 19 0 BM Z Z Z f Z λa f=>q_own_len (i:=10) 19 1 m dk Z underlying27 Z (by kernel_rfl) Z f (AV f Z Z Z dx) Z Z λa f=>Am (hw:=wo f dx) 11 19 Z f Z λa f=>Am (hw:=wo f dx) 12 19 Z f Z λa f=>Bd dr λdy dz dr=>q_atP (i:=13) (listed':= #[true,true,true,true,true,true,true,true,true,true,true,true,true,true,false,false,false,false,false]) 19 T33 cI dz Z (by kernel_rfl) Z f (AV f Z Z Z dx) Z Z Z λdA dB a dC dD f=>q_fieldR (i:=14) (listed':= #[true,true,true,true,true,true,true,true,true,true,true,true,true,true,true,false,false,false,false]) (C:=P3S) (c:=(hdV dB)) 19 underlying42 Z sizeOf39 (by decide) dC Z Z (by kernel_rfl) Z f (AV f Z Z Z dx) Z Z λdE a dF f=>BR (hw:=wo f dx) 15 19 Bu dF Z f Z λa f=> ?_
              refine DI (i:=16) 19 underlying39 dD Z (by kernel_rfl) Z f (AV f Z Z Z dx) Z Z λa f=>q_p (hw:=wo f dx) 17 19 Z f (λ_=>AP (f.e Z) (f.e Z) BN) λa f=>q_p 18 19 Z f (λ_=>AC (f.e Z) dx (f.e Z)) λa f=> ?_
              obtain rfl:=sj dr
              exact dw _ (f.k Z)
           ·intro dG
            rcases Ae dn with⟨dH,dn⟩|⟨dH,dn⟩
            ·refine Ap 3 19 Z f dH λa f=>Ap 4 19 Z f dH λa f=>Ap 5 19 Z f dH λa f=>q_p 6 19 Z f (λ_=>AD (f.e Z) dH (f.e Z)) λa f=> ?_
             obtain rfl:=sj dn
             exact dG _ (f.k Z)
            ·refine By (i:=3) (ds:=[di]) 19 0 AU Z Z Z Z (by kernel_rfl) Z f (AV f Z Z Z dH) Z Z λa f=>Bd dn λdI dJ dn=>BZ (i:=4) 19 Z (by kernel_rfl) Z f (AV f Z Z Z dH) Z Z call17 (λ_ _ w dK m=>(Ow.lendCallR (RSl.mono (RI.mono _)) 1 (od3 dK dk) m Z (λdL dM m dN=>Wk.M m dN dJ) (λ_ _ _ _ h=>h))) λa f=>q_p (hw:=wo f dH) 5 19 Z f (λ_=>Bc (f.e Z)) λa f=>q_p 6 19 Z f (λ_=>AC (f.e Z) dH (f.e Z)) λa f=> ?_
             obtain rfl:=sj dn
             exact dG _ (f.k Z)
          ·refine Ai f Z da (Ao (Ak (Ab f Z λa f=>Ah f Z Z Ax λa f=>Ac f Z λa f=>Aa (have m:=m.fr 1;have m:=m.eraseAt 1;?_))))
           obtain rfl:=sj cF
           exact⟨_,Z,_,_,_,Z,_,cD,(gt cH (gt cP cZ)),f.k Z,m,cI⟩
        ·refine Ai f Z cJ (AB Z ?_)
         obtain rfl:=sj cF
         obtain rfl:=cG _ rfl
         exact⟨_,Z,_,_,Z,_,cD,cH,f.k Z,m,cI⟩
       ·rintro a w ⟨_,rfl,cu,cv,rfl,cw,cx,dO,f,m,dP⟩
        refine have ba:=rd2 dO ba;Af (Ab f Z λa f=>Ab f Z λa f=>Dl underlying33 f Z Z dP λa f=>Ah f Z Z Bf λa f=>Ab f Z λa f=>Bd hd λdQ dR hd=> ?_)
        refine Bi 5 (λa w=>∃dS,GLe cw dS∧Mem W dS w (ib aD 29 [aR]::H)∧Fr a 116 [(4,pb aD),(5,cx),(7,iv b0),(10,(.bool cv)),(106,iv b0),(107,cx),(108,(iv (cu.length:Int))),(109,(.bool (b0==(cu.length:Int)))),(110,(.bool (b0==(cu.length:Int)))),(115,(.bool dQ))]) ?_ ?_
        ·rcases Ae dR with⟨dT,dR⟩|⟨dT,dR⟩
         ·refine As f dT (Ab f Z λa f=>As f dT (AN 0 0 (ds:=[aR]) m AU f Z Z Z Z Z λa f=>As f dT (Bd dR λdU dV dR=>A1 f Z call18 (Wk.Z0 m ba dV) λdW w dX m a f=>have dP:=RPt.mono ptT _ _ _ _ dX dP;As f dT (l_o f (r_bool_neq (f.e Z) (f.e Z) underlying4) λa f=>l_o f (AD (f.e Z) dT (f.e Z)) λa f=> ?_))))
          obtain rfl:=sj dR
          exact⟨_,dX,m,f.k Z⟩
         ·refine Au f dT λa f=>Au f dT λa f=>Au f dT λa f=>Au f dT λa f=>l_o f (AC (f.e Z) dT (f.e Z)) λa f=> ?_
          obtain rfl:=sj dR
          exact⟨_,gr,m,f.k Z⟩
        ·rintro a w ⟨dS,dY,m,f⟩
         refine have dP:=RPt.mono ptT _ _ _ _ dY dP;Ac f Z λa f=>Aa (Aq (have m:=m.dp 1;?_))
         obtain rfl:=sj hd
         exact⟨[(.bool dQ)],f.g Z,f.d,_,[],(gt ad (gt ak (gt aw (gt aJ (gt a6 (gt a9 (gt bg (gt bA (gt bP (gt bW (gt cn (gt cp (gt dO dY))))))))))))),m,Z,Z⟩
end Go.Proofs.YthdcaieaajekcaaGreatDoor

namespace Go.Sx
end Go.Sx



namespace Go.Sx
def Sh {α:Type}(xs:List α):Prop:=xs.length≤4294967296
theorem DO (a b c:Int):D.b a b c=some (decide (b≤a)&&decide (a≤c)):=rfl
theorem DJ (a b c:Int):D.y a b c=some (decide (b≤a)&&decide (a≤c)):=rfl
theorem any_beq (xs:LI)(n:Int):xs.any (λx=>x==n)=decide (n∈xs):=by
 rw[Bool.eq_iff_iff,List.any_eq_true];simp
theorem CN (xs:LI)(n:Int)(h:Sh xs):D.d xs n=some (decide (n∈xs)):=by
 unfold Sh at h
 unfold D.d
 refine(loop_anyb xs.length (λi=>xs.getD i 0==n) true (λi hi=> ?_) ?_ rfl rfl).trans ?_
 ·simp only[dlt hi,cT,AF hi,bs,wi' hi (by omega),A6 hi]
  cases xs[i]==n<;>rfl
 ·simp only[Bs,cF]
 ·rw[range_any_list xs (λx=>x==n) _ (λi hi=>by rw[A6 hi]),any_beq]
theorem Fi (xs:LI)(n:Int)(h:Sh xs):D.c0 xs n=some (decide (n∈xs)):=by
 unfold Sh at h
 unfold D.c0 D.k1
 have e:Ar (σ:=Int) (ρ:=(Unit) ⊕ (Int)) (fun(x_26:Int)=>cond (decide (x_26<(xs.length:Int))) ((idx xs x_26).bind λe_39=>cond (n==e_39) (some (.inr (.inr x_26))) (some (.inl (IntKind.i64.wrap (x_26+1))))) (some (.inr (.inl ())))) 0=
   some (((List.range xs.length).findSome? (λi=>if xs.getD i 0==n then some (Sum.inr (i:Int)) else none)).getD (.inl ())):=by
  refine D8 xs.length _ _ (λi hi=> ?_) ?_
  ·simp only[dlt hi,cT,AF hi,bs,wi' hi (by omega),A6 hi]
   rw[show (n==xs[i])=(xs[i]==n) from Bool.beq_comm ..]
   cases xs[i]==n<;>rfl
  ·simp only[Bs,cF]
 rw[e,bs]
 cases hf:(List.range xs.length).findSome? (λi=>if xs.getD i 0==n then some (Sum.inr (i:Int):Unit ⊕ Int) else none) with
 |none=>
  have:n∉xs:=λhm=>by
   obtain⟨i,hi,e⟩:=List.getElem_of_mem hm
   have:=(List.findSome?_eq_none_iff.1 hf) i (List.mem_range.2 hi)
   rw[A6 hi,e] at this
   simp at this
  simp[this]
 |some r=>
  obtain⟨i,hi,hr⟩:=List.exists_of_findSome?_eq_some hf
  have hi':=List.mem_range.1 hi
  rw[A6 hi'] at hr
  split at hr
  ·rename_i hc
   cases hr
   have:n∈xs:=by rw[←(beq_iff_eq.1 hc)];exact List.getElem_mem _
   simp[this]
  ·cases hr
def SetOf (xs:LI)(n:Int):Prop:=Inc xs∧∀x∈xs,0≤x∧x<n
theorem SetOf.len :∀{xs:LI} {n a:Int},Inc xs→(∀x∈xs,a≤x∧x<n)→xs=[]∨(xs.length:Int)≤n-a
 |[],_,_,_,_=> .inl rfl
 |x::xs,n,a,h,hr=>by
  right
  have h':=List.pairwise_cons.1 h
  have hx:=hr x (by simp)
  rcases SetOf.len (a:=x+1) (n:=n) h'.2 (λy hy=>⟨by have:=h'.1 y hy;omega,(hr y (by simp[hy])).2⟩) with e|e
  ·subst e;simp;omega
  ·simp;omega
theorem SetOf.length_le {xs:LI}{n:Int}(h:SetOf xs n)(hn:0≤n):(xs.length:Int)≤n:=by
 rcases SetOf.len h.1 h.2 with e|e
 ·subst e;simpa using hn
 ·omega
theorem inc_iff (xs:LI):Inc xs↔∀i (hi:i+1<xs.length),xs[i]<xs[i+1]:=by
 unfold Inc
 constructor
 ·intro h i hi
  exact List.pairwise_iff_getElem.1 h i (i+1) (by omega) hi (by omega)
 ·intro h
  rw[List.pairwise_iff_getElem]
  intro i j hi hj hij
  have key:∀k,∀hk:i+k+1<xs.length,xs[i]<xs[i+k+1]:=by
   intro k
   induction k with
   |zero=>intro hk;exact h i hk
   |succ k ih=>intro hk;have:=ih (by omega);have:=h (i+k+1) hk;exact Int.lt_trans (ih (by omega)) this
  obtain⟨k,rfl⟩:∃k,j=i+k+1:=⟨j-i-1,by omega⟩
  exact key k hj
def Dd (xs:LI)(n:Int):Bool:=(List.range xs.length).all λi=>(decide (0≤xs.getD i 0)&&decide (xs.getD i 0≤n-1))&& !(decide (0<i)&&decide (xs.getD i 0≤xs.getD (i-1) 0))
theorem CO (xs:LI)(n:Int):Dd xs n=true↔SetOf xs n:=by
 unfold Dd SetOf
 rw[EF,inc_iff]
 constructor
 ·intro h
  refine⟨λi hi=> ?_,λx hx=> ?_⟩
  ·have:=h (i+1) hi
   simp[hi,show i<xs.length by omega] at this
   omega
  ·obtain⟨i,hi,rfl⟩:=List.getElem_of_mem hx
   have:=h i hi
   simp[hi] at this
   omega
 ·rintro⟨h1,h2⟩ i hi
  have h3:=h2 _ (List.getElem_mem hi)
  simp[hi]
  refine⟨by omega,?_⟩
  rcases Nat.eq_zero_or_pos i with h0|h0
  ·exact .inl h0
  ·right
   have:=h1 (i-1) (by omega)
   have e:i-1+1=i:=by omega
   simp only[e] at this
   have e2:xs[i-1]?.getD 0=xs[i-1]:=by rw[List.getElem?_eq_getElem (by omega)];rfl
   rw[e2];exact this
theorem EL (xs:LI)(n:Int)(h:Sh xs)(h0:0≤n)(hn:n≤4294967296):D.g0 xs n=some (Dd xs n):=by
 unfold Sh at h
 unfold D.g0
 refine Dy xs.length _ false (λi hi=> ?_) ?_ rfl rfl
 ·simp only[dlt hi,cT,AF hi,bs,wi' hi (by omega),A6 hi,DJ]
  rw[w64 (x:=n-1) (by omega) (by omega)]
  cases (decide (0≤xs[i])&&decide (xs[i]≤n-1))
  ·simp
  ·by_cases h0:0<i
   ·have e1:IntKind.i64.wrap ((i:Int)-1)=((i-1:Nat):Int):=by rw[w64 (by omega) (by omega)];omega
    have hd:decide ((0:Int)<(i:Int))=true:=by simp;omega
    simp only[Bool.not_true,cF,hd,cT,e1,AF (show i-1<xs.length by omega),bs,A6 (show i-1<xs.length by omega),h0,decide_true,Bool.true_and]
    cases decide (xs[i]≤xs[i-1])<;>rfl
   ·have hd:decide ((0:Int)<(i:Int))=false:=by simp;omega
    simp only[Bool.not_true,cF,hd,bs,h0,decide_false,Bool.false_and,Bool.not_false,Bool.and_true,if_true]
 ·simp only[Bs,cF]
theorem l1Set_eq (xs:LI)(n:Int)(h:Sh xs)(h0:0≤n)(hn:n≤4294967296):D.B xs n=some (Dd xs n):=by
 have hh:=h
 unfold Sh at h
 unfold D.B
 by_cases hl:n<xs.length
 ·have:Dd xs n=false:=by
   cases hb:Dd xs n
   ·rfl
   ·have:=((CO xs n).1 hb).length_le h0;omega
  simp[hl,this]
 ·simp only[hl,decide_false,cF]
  refine Dy xs.length _ false (λi hi=> ?_) ?_ rfl rfl
  ·simp only[dlt hi,cT,AF hi,bs,wi' hi (by omega),A6 hi,DO]
   rw[w64 (x:=n-1) (by omega) (by omega)]
   cases (decide (0≤xs[i])&&decide (xs[i]≤n-1))
   ·simp
   ·by_cases h0:0<i
    ·have e1:IntKind.i64.wrap ((i:Int)-1)=((i-1:Nat):Int):=by rw[w64 (by omega) (by omega)];omega
     have hd:decide ((0:Int)<(i:Int))=true:=by simp;omega
     simp only[Bool.not_true,cF,hd,cT,e1,AF (show i-1<xs.length by omega),bs,A6 (show i-1<xs.length by omega),h0,decide_true,Bool.true_and]
     cases decide (xs[i]≤xs[i-1])<;>rfl
    ·have hd:decide ((0:Int)<(i:Int))=false:=by simp;omega
     simp only[Bool.not_true,cF,hd,bs,h0,decide_false,Bool.false_and,Bool.not_false,Bool.and_true,if_true]
  ·simp only[Bs,cF]
def row (g:LL)(v:Nat):LI:=g.getD v []
theorem row_eq {g:LL}{v:Nat}(h:v<g.length):row g v=g[v]:=A6 h _
def adj (g:LL)(u v:Nat):Prop:=(v:Int)∈row g u
structure GOk (g:LL):Prop where
 n1:1≤g.length
 n16:g.length≤16
 rows:∀v,v<g.length→SetOf (row g v) g.length
 irr:∀v,v<g.length→¬adj g v v
 sym:∀u v,u<g.length→adj g u v→adj g v u
theorem GOk.mem {g:LL}(h:GOk g){u:Nat}(hu:u<g.length){x:Int}(hx:x∈row g u):∃v:Nat,x=v∧v<g.length∧adj g u v:=by
 have:=(h.rows u hu).2 x hx
 refine⟨x.toNat,by omega,by omega,?_⟩
 unfold adj
 rw[show ((x.toNat:Nat):Int)=x by omega];exact hx
theorem GOk.row_len {g:LL}(h:GOk g){u:Nat}(hu:u<g.length):(row g u).length≤16:=by
 have:=(h.rows u hu).length_le (by omega)
 have:=h.n16
 omega
theorem GOk.lt {g:LL}(h:GOk g){u v:Nat}(hu:u<g.length)(ha:adj g u v):v<g.length:=by
 obtain⟨w,h1,h2,_⟩:=h.mem hu ha
 omega
def Sh2 (g:LL):Prop:=Sh g∧∀r∈g,Sh r
theorem Sh2.row {g:LL}(h:Sh2 g){v:Nat}(hv:v<g.length):Sh (row g v):=by
 rw[row_eq hv];exact h.2 _ (List.getElem_mem hv)
theorem Cg {g:LL}{v:Nat}(h:v<g.length):idx g (v:Int)=some (row g v):=by rw[row_eq h,AF h]
def gB1 (g:LL):Bool:=(List.range g.length).all λv=>Dd (row g v) g.length&& !decide ((v:Int)∈row g v)
def gB2 (g:LL):Bool:=(List.range g.length).all λv=>(row g v).all λx=>decide ((v:Int)∈row g x.toNat)
def gB (g:LL):Bool:=decide (1≤g.length)&&decide (g.length≤16)&&gB1 g&&gB2 g
theorem gB_iff (g:LL):gB g=true↔GOk g:=by
 unfold gB gB1 gB2
 simp only[Bool.and_eq_true,decide_eq_true_eq,CO,Bool.not_eq_true',decide_eq_false_iff_not,List.all_eq_true,List.mem_range]
 constructor
 ·rintro⟨⟨⟨h1,h2⟩,h3⟩,h4⟩
  refine⟨h1,h2,λv hv=>(h3 v hv).1,λv hv=>(h3 v hv).2,λu v hu ha=> ?_⟩
  have:=h4 u hu v ha
  unfold adj
  simpa using this
 ·intro h
  refine⟨⟨⟨h.n1,h.n16⟩,λv hv=>⟨h.rows v hv,h.irr v hv⟩⟩,λv hv x hx=> ?_⟩
  obtain⟨u,rfl,hu,ha⟩:=h.mem hv hx
  have:=h.sym v u hv ha
  simpa [adj] using this
theorem Ce (g:LL)(h:Sh2 g):D.q g=some (gB g):=by
 have hl:g.length≤4294967296:=h.1
 unfold D.q D.u
 simp only[bs,DO]
 by_cases hn:1≤g.length∧g.length≤16
 ·have e:(decide ((1:Int)≤(g.length:Int))&&decide ((g.length:Int)≤16))=true:=by simp;omega
  simp only[e,Bool.not_true,cF]
  refine(CX g.length (λv=>Dd (row g v) g.length&& !decide ((v:Int)∈row g v)) (.inl ()) (.inr false) (λv hv=> ?_) ?_).trans ?_
  rotate_left
  ·simp only[Bs,cF]
  ·show cond (gB1 g) _ _=_
   have e4:gB g=(gB1 g&&gB2 g):=by unfold gB;simp[hn.1,hn.2]
   rw[e4]
   cases hc:gB1 g with
   |false=>rfl
   |true=>
    rw[cT,Bool.true_and]
    refine Dy g.length _ false (λv hv=> ?_) ?_ rfl rfl
    ·have hset:SetOf (row g v) g.length:=by
      have:=(EF _ _).1 hc v hv
      simp only[Bool.and_eq_true] at this
      exact(CO _ _).1 this.1
     simp only[dlt hv,cT]
     refine(CX (row g v).length (λi=>decide ((v:Int)∈row g ((row g v).getD i 0).toNat)) (.inl ()) (.inr false) (λi hi=> ?_) ?_).trans ?_
     ·have hx:=hset.2 _ (List.getElem_mem hi)
      have e5:idx g (row g v)[i]=some (row g ((row g v)[i]).toNat):=by
       have:=Cg (g:=g) (v:=((row g v)[i]).toNat) (by omega)
       rwa [show ((((row g v)[i]).toNat:Nat):Int)=(row g v)[i] by omega] at this
      have hs:=h.row (v:=((row g v)[i]).toNat) (by omega)
      simp only[Cg hv,bs,dlt hi,cT,AF hi,e5,CN _ _ hs,wi (show i<4611686018427387904 by have:=h.row hv;unfold Sh at this;omega),A6 hi]
      cases decide ((v:Int)∈row g ((row g v)[i]).toNat)<;>rfl
     ·simp only[Cg hv,bs,Bs,cF]
     ·rw[Ee (row g v) (λx=>decide ((v:Int)∈row g x.toNat)) _ (λi hi=>by rw[A6 hi]),wi' hv (by omega)]
      cases (row g v).all λx=>decide ((v:Int)∈row g x.toNat)<;>rfl
    ·simp only[Bs,cF]
  ·simp only[dlt hv,cT,Cg hv,bs,l1Set_eq _ _ (h.row hv) (show (0:Int)≤(g.length:Int) by omega) (by omega),CN _ _ (h.row hv),wi' hv (by omega)]
   cases Dd (row g v) g.length
   ·rfl
   ·cases decide ((v:Int)∈row g v)<;>rfl
 ·have e:(decide ((1:Int)≤(g.length:Int))&&decide ((g.length:Int)≤16))=false:=by
   rw[Bool.eq_false_iff];simp;omega
  simp only[e,Bool.not_false,cT]
  unfold gB
  congr 1
  symm
  rw[Bool.eq_false_iff]
  simp
  omega
theorem CL (g:LL)(h:Sh2 g):D.z g=some (gB g):=by
 have hl:g.length≤4294967296:=h.1
 unfold D.z
 by_cases hn:1≤g.length∧g.length≤16
 ·have e:(decide ((g.length:Int)<(1:Int))||decide ((16:Int)<(g.length:Int)))=false:=by simp;omega
  simp only[e,cF]
  refine(CX g.length (λv=>Dd (row g v) g.length&& !decide ((v:Int)∈row g v)) (.inl ()) (.inr false) (λv hv=> ?_) ?_).trans ?_
  rotate_left
  ·simp only[Bs,cF]
  ·show cond (gB1 g) _ _=_
   have e4:gB g=(gB1 g&&gB2 g):=by unfold gB;simp[hn.1,hn.2]
   rw[e4]
   cases hc:gB1 g with
   |false=>rfl
   |true=>
    rw[cT,Bool.true_and]
    refine Dy g.length _ false (λv hv=> ?_) ?_ rfl rfl
    ·have hset:SetOf (row g v) g.length:=by
      have:=(EF _ _).1 hc v hv
      simp only[Bool.and_eq_true] at this
      exact(CO _ _).1 this.1
     simp only[dlt hv,cT,Cg hv,bs]
     refine(CX (row g v).length (λi=>decide ((v:Int)∈row g ((row g v).getD i 0).toNat)) (.inl ()) (.inr false) (λi hi=> ?_) ?_).trans ?_
     ·have hx:=hset.2 _ (List.getElem_mem hi)
      have e5:idx g (row g v)[i]=some (row g ((row g v)[i]).toNat):=by
       have:=Cg (g:=g) (v:=((row g v)[i]).toNat) (by omega)
       rwa [show ((((row g v)[i]).toNat:Nat):Int)=(row g v)[i] by omega] at this
      have hs:=h.row (v:=((row g v)[i]).toNat) (by omega)
      simp only[bs,dlt hi,cT,AF hi,e5,Fi _ _ hs,wi (show i<4611686018427387904 by have:=h.row hv;unfold Sh at this;omega),A6 hi]
      cases decide ((v:Int)∈row g ((row g v)[i]).toNat)<;>rfl
     ·simp only[Bs,cF]
     ·rw[Ee (row g v) (λx=>decide ((v:Int)∈row g x.toNat)) _ (λi hi=>by rw[A6 hi]),wi' hv (by omega)]
      cases (row g v).all λx=>decide ((v:Int)∈row g x.toNat)<;>rfl
    ·simp only[Bs,cF]
  ·simp only[dlt hv,cT,Cg hv,bs,EL _ _ (h.row hv) (show (0:Int)≤(g.length:Int) by omega) (by omega),Fi _ _ (h.row hv),wi' hv (by omega)]
   cases Dd (row g v) g.length
   ·rfl
   ·cases decide ((v:Int)∈row g v)<;>rfl
 ·have e:(decide ((g.length:Int)<(1:Int))||decide ((16:Int)<(g.length:Int)))=true:=by
   simp;omega
  simp only[e,cT]
  unfold gB
  congr 1
  symm
  rw[Bool.eq_false_iff]
  simp
  omega
structure OOk (g:LL)(o:LI):Prop where
 len:o.length=g.length
 rng:∀x∈o,0≤x∧x<g.length
 nd:o.Nodup
def oB (g:LL)(o:LI):Bool:=(List.range o.length).all λi=>(decide (0≤o.getD i 0)&&decide (o.getD i 0≤(g.length:Int)-1))&& !decide (o.getD i 0∈o.take i)
theorem Cm (v:Nat):D.c (v:Int)=some (ishl .u32 1 (v:Int)):=by
 unfold D.c
 have:decide ((v:Int)<0)=false:=by simp
 rw[this];rfl
theorem impl_one_eq' {x:Int}(h:0≤x):D.c x=some (ishl .u32 1 x):=by
 have:=Cm x.toNat
 rwa [show ((x.toNat:Nat):Int)=x by omega] at this
def mk (xs:LI):Int:=xs.foldl (λs v=>ior .u32 s (ishl .u32 1 v)) 0
theorem maskOf_eq (xs:LI)(h:Sh xs)(h0:∀x∈xs,0≤x):D.A xs=some (mk xs):=by
 unfold Sh at h
 unfold D.A
 refine(loop_listb xs (λs i=>(s,i)) (λs v=>ior .u32 s (ishl .u32 1 v)) (λs=>s) (λ_=>True) 0 trivial (λs i hi _=>⟨?_,trivial⟩) (λs _=> ?_)).trans rfl
 ·simp only[dlt hi,cT,AF hi,bs,wi' hi (by omega),impl_one_eq' (h0 _ (List.getElem_mem hi))]
 ·simp only[Bs,cF]
theorem ET :∀(xs:LI) (s:Int),VS s→VS (xs.foldl (λs v=>ior .u32 s (ishl .u32 1 v)) s)
 |[],s,h=>h
 |x::xs,s,_=>ET xs _ (VS.ior _ _)
theorem VS.mk (xs:LI):VS (mk xs):=ET xs 0 VS.zero
theorem EH (u:Nat):∀(xs:LI) (s:Int),VS s→(∀x∈xs,0≤x∧x<32)→has (xs.foldl (λs v=>ior .u32 s (ishl .u32 1 v)) s) u=(has s u||decide ((u:Int)∈xs))
 |[],s,_,_=>by simp
 |x::xs,s,hs,h=>by
  have hx:=h x (by simp)
  rw[List.foldl_cons,EH u xs _ (VS.ior _ _) (λy hy=>h y (by simp[hy])),BU hs (VS.ishl _ _)]
  obtain⟨k,rfl⟩:∃k:Nat,x=k:=⟨x.toNat,by omega⟩
  rw[BE (by omega)]
  by_cases hu:u=k
  ·subst hu;simp
  ·have:¬(u:Int)=(k:Int):=by omega
   simp[hu,this]
theorem has_mk {xs:LI}(h:∀x∈xs,0≤x∧x<32)(u:Nat):has (mk xs) u=decide ((u:Int)∈xs):=by
 unfold mk;rw[EH u xs 0 VS.zero h,BH,Bool.false_or]
theorem GOk.mem0 {g:LL}(hg:GOk g){r:LI}(hr:r∈g):r.length≤16∧∀x∈r,0≤x∧x<g.length:=by
 obtain⟨v,hv,rfl⟩:=List.getElem_of_mem hr
 rw[←row_eq hv]
 exact⟨hg.row_len hv,(hg.rows v hv).2⟩
theorem D6 (g:LL)(hg:GOk g):D.v g=some (g.map mk):=by
 have h16:=hg.n16
 unfold D.v
 refine(Ew g (λs i=>(s,i)) mk (by omega) (λs i hi _=> ?_) (λs=> ?_)).trans rfl
 ·obtain⟨h1,h2⟩:=hg.mem0 (List.getElem_mem hi)
  simp only[dlt hi,cT,AF hi,bs,wi' hi (by omega),maskOf_eq g[i] (by unfold Sh;omega) (λx hx=>(h2 x hx).1)]
 ·simp only[Bs,cF]
theorem wide_eq (xs:LI)(h:Sh xs):D.K0 xs=some xs:=by
 unfold Sh at h
 unfold D.K0
 rw[makeD_zero (by omega) (by omega),bs]
 refine(Ew xs (λs i=>(s,i)) (λx=>x) h (λs i hi _=> ?_) (λs=> ?_)).trans (by simp)
 ·simp only[dlt hi,cT,AF hi,bs,wi' hi (by omega)]
 ·simp only[Bs,cF]
theorem Dc {s:Int}(h:VS s)(h0:s≠0):∃k:Nat,k<32∧D.e s=some (k:Int)∧has s k=true∧(∀v,v<k→has s v=false)∧
  (∀v,has (iand .u32 s (IntKind.u32.wrap (s-1))) v=(has s v&& !decide (v=k))):=by
 obtain⟨k,h1,h2,h3,h4,h5⟩:=least_spec h h0
 refine⟨k,h1,?_,h2,h3,h5⟩
 unfold D.e D.o1
 have e:(s==0)=false:=by simpa using h0
 simp only[e,cF,h4,tz_table k h1,bs]
 rw[w64 (by omega) (by omega)]
theorem DN (s:Int)(h:VS s):D.i s=some (Aj s):=by
 unfold D.i
 have key:∀(n:Nat) (x:Int) (l:LI),VS x→(Aj x).length=n→l.length+n≤32→
   Ar (σ:=Int×LI) (ρ:=(LI)) (fun(s_52:Int×LI)=>match s_52 with|(x_55,l_56)=>cond (x_55 !=0) ((D.e x_55).bind λy_88=>(AK l_56 ([y_88]:LI)).bind λl_99=>some (.inl ((iand .u32 x_55 (IntKind.u32.wrap (x_55-1))),l_99))) (some (.inr l_56))) (x,l)=some (l++Aj x):=by
  intro n
  induction n with
  |zero=>
   intro x l hx hn _
   have e:Aj x=[]:=List.eq_nil_of_length_eq_zero hn
   have e0:x=0:=hx.eq_zero.2 λv hv=>by
    cases hc:has x v
    ·rfl
    ·have:=mem_elems.2 ⟨v,hv,hc,rfl⟩;rw[e] at this;simp at this
   rw[e]
   refine Bo ?_
   have:(x !=0)=false:=by simp[e0]
   simp only[this,cF,List.append_nil]
  |succ n ih=>
   intro x l hx hn hl
   have h0:x≠0:=by rintro rfl;rw[elems_zero] at hn;simp at hn
   obtain⟨k,h1,h2,h3,h4,h5⟩:=Dc hx h0
   have e:=Fk h1 h3 h4 h5
   have en:(Aj (iand .u32 x (IntKind.u32.wrap (x-1)))).length=n:=by rw[e] at hn;simpa using hn
   have hstep:=ih (iand .u32 x (IntKind.u32.wrap (x-1))) (l++[(k:Int)]) (VS.iand _ _) en (by simp;omega)
   have e1:(x !=0)=true:=by simpa using h0
   rw[BK (s':=(iand .u32 x (IntKind.u32.wrap (x-1)),l++[(k:Int)]))]
   ·rw[hstep,e];simp
   ·simp only[e1,cT,h2,bs,AY (xs:=l) (ys:=[(k:Int)]) (by simp;omega)]
 have:=key (Aj s).length s [] h rfl (by simpa using Bb s)
 rw[this];simp
theorem EG (s:Int):Sh (Aj s):=by have:=Bb s;unfold Sh;omega
theorem numbers_eq (s:Int)(h:VS s):D.f0 s=some (Aj s):=by
 unfold D.f0
 rw[DN s h,bs,wide_eq _ (EG s)];rfl
theorem EX (xs:LI)(h:Sh xs):D.h xs=some xs:=by
 unfold Sh at h
 unfold D.h
 rw[AY (by simpa using h)];rfl
def into (xs:LI)(n:Int):LI:=if n∈xs then xs else xs.takeWhile (λx=>decide (x<n))++n::xs.dropWhile (λx=>decide (x<n))
theorem mem_into {xs:LI}{n x:Int}:x∈into xs n↔x=n∨x∈xs:=by
 unfold into
 split
 ·constructor
  ·intro h;exact .inr h
  ·rintro(rfl|h)
   ·assumption
   ·exact h
 ·have e:x∈xs↔x∈xs.takeWhile (λx=>decide (x<n))++xs.dropWhile (λx=>decide (x<n)):=by rw[List.takeWhile_append_dropWhile]
  rw[e];simp only[List.mem_append,List.mem_cons]
  constructor
  ·rintro(h|h|h)<;>simp[h]
  ·rintro(h|h|h)<;>simp[h]
theorem EI {xs:LI}{n:Int}(h:Inc xs):∀y∈xs.dropWhile (λx=>decide (x<n)),n≤y:=by
 induction xs with
 |nil=>simp
 |cons x xs ih=>
  have h':=List.pairwise_cons.1 h
  intro y hy
  rw[List.dropWhile_cons] at hy
  split at hy
  ·exact ih h'.2 y hy
  ·rename_i hc
   simp at hc
   rcases List.mem_cons.1 hy with rfl|hy
   ·exact hc
   ·have:=h'.1 y hy;omega
theorem inc_takeWhile {xs:LI}{n:Int}:∀y∈xs.takeWhile (λx=>decide (x<n)),y<n:=by
 intro y hy
 induction xs with
 |nil=>simp at hy
 |cons x xs ih=>
  rw[List.takeWhile_cons] at hy
  split at hy
  ·rename_i hc
   rcases List.mem_cons.1 hy with rfl|hy
   ·simpa using hc
   ·exact ih hy
  ·simp at hy
theorem Inc.into {xs:LI}(h:Inc xs)(n:Int):Inc (into xs n):=by
 unfold Sx.into
 split
 ·exact h
 ·rename_i hn
  unfold Inc
  rw[List.pairwise_append]
  refine⟨List.Pairwise.sublist (List.takeWhile_sublist _) h,List.pairwise_cons.2 ⟨λy hy=> ?_,List.Pairwise.sublist (List.dropWhile_sublist _) h⟩,λa ha b hb=> ?_⟩
  ·have h1:=EI h y hy
   have h2:y≠n:=λe=>hn (e▸(List.dropWhile_sublist _).mem hy)
   omega
  ·have h1:=inc_takeWhile a ha
   rcases List.mem_cons.1 hb with rfl|hb
   ·exact h1
   ·have:=EI h b hb;omega
theorem C4 {α:Type}(p:α→Bool):∀(xs:List α),xs.takeWhile p=xs.take (xs.takeWhile p).length∧xs.dropWhile p=xs.drop (xs.takeWhile p).length
 |[]=>by simp
 |x::xs=>by
  rw[List.takeWhile_cons,List.dropWhile_cons]
  cases p x
  ·simp
  ·have:=C4 p xs
   simp only[if_true,List.length_cons,List.take_succ_cons,List.drop_succ_cons,←this.1,←this.2,and_self]
theorem Da {α:Type}(p:α→Bool):∀(xs:List α) (i:Nat) (h:i<(xs.takeWhile p).length) (h':i<xs.length),p xs[i]=true
 |x::xs,i,h,h'=>by
  rw[List.takeWhile_cons] at h
  cases hp:p x
  ·rw[hp] at h;simp at h
  ·rw[hp] at h
   cases i with
   |zero=>simpa using hp
   |succ i=>simp only[if_true,List.length_cons] at h;simpa using Da p xs i (by omega) (by simpa using h')
theorem Dm {α:Type}(p:α→Bool):∀(xs:List α) (h:(xs.takeWhile p).length<xs.length),p (xs[(xs.takeWhile p).length])=false
 |x::xs,h=>by
  cases hp:p x
  ·simp[List.takeWhile_cons,hp]
  ·have h2:(xs.takeWhile p).length<xs.length:=by simpa [List.takeWhile_cons,hp] using h
   simpa [List.takeWhile_cons,hp] using Dm p xs h2
theorem Fp {α:Type}(p:α→Bool)(xs:List α):(xs.takeWhile p).length≤xs.length:=(List.takeWhile_sublist _).length_le
theorem DA (xs:LI)(n:Int)(h:Inc xs)(hl:xs.length≤4294967295):D.g xs n=some (into xs n):=by
 unfold D.g
 generalize hk:(xs.takeWhile (λx=>decide (x<n))).length=k
 have hkl:k≤xs.length:=by rw[←hk];exact Fp _ _
 have htk:xs.takeWhile (λx=>decide (x<n))=xs.take k:=by rw[←hk];exact(C4 _ xs).1
 have hdk:xs.dropWhile (λx=>decide (x<n))=xs.drop k:=by rw[←hk];exact(C4 _ xs).2
 refine(Dn (λi=>((i:Nat):Int)) k (k:Int) rfl (λi hi=> ?_) ?_).trans ?_
 ·have hi':i<xs.length:=by omega
  have hp:decide (xs[i]<n)=true:=Da (λx=>decide (x<n)) xs i (by omega) hi'
  simp only[dlt hi',cT,AF hi',bs,hp,wq i]
 ·by_cases hlt:k<xs.length
  ·have hp:decide (xs[k]<n)=false:=by
    have:=Dm (λx=>decide (x<n)) xs (by omega)
    simp only[hk] at this;exact this
   simp only[dlt hlt,cT,AF hlt,bs,hp,cF]
  ·obtain rfl:k=xs.length:=by omega
   simp only[Bs,cF,bs]
 ·have hS1:Sh (xs.take k):=by unfold Sh;rw[List.length_take];omega
  have hrest:((BW xs 0 (k:Int)).bind λl_135=>(D.h l_135).bind λy_139=>(AK y_139 ([n]:LI)).bind λl_154=>(BW xs (k:Int) (xs.length:Int)).bind λl_160=>(AK l_154 l_160).bind λl_164=>some l_164)=some (xs.take k++n::xs.drop k):=by
   simp only[EB hkl,Du hkl,bs,EX _ hS1]
   rw[AY (by simp;omega),bs,AY (by simp;omega),bs]
   simp
  by_cases hlt:k<xs.length
  ·simp only[dlt hlt,cT,AF hlt,bs]
   by_cases he:xs[k]=n
   ·have hm:n∈xs:=by rw[←he];exact List.getElem_mem _
    have:(xs[k]==n)=true:=by simp[he]
    simp only[this,cT]
    unfold into;rw[if_pos hm]
   ·have:(xs[k]==n)=false:=by simpa using he
    simp only[this,cF,hrest]
    unfold into
    rw[htk,hdk,if_neg]
    intro hm
    obtain⟨j,hj,e⟩:=List.getElem_of_mem hm
    have hst:decide (xs[k]<n)=false:=by
     have:=Dm (λx=>decide (x<n)) xs (by omega)
     simp only[hk] at this;exact this
    simp at hst
    rcases Nat.lt_trichotomy j k with h1|h1|h1
    ·have:=Da (λx=>decide (x<n)) xs j (by omega) hj
     simp at this;omega
    ·subst h1;exact he e
    ·have:=(List.pairwise_iff_getElem.1 h) k j hlt hj h1
     omega
  ·obtain rfl:k=xs.length:=by omega
   simp only[Bs,cF,bs,hrest]
   unfold into
   rw[htk,hdk,if_neg]
   intro hm
   obtain⟨j,hj,e⟩:=List.getElem_of_mem hm
   have:=Da (λx=>decide (x<n)) xs j (by omega) hj
   simp at this;omega
theorem Inc.short {s:LI}{n:Nat}(h:Inc s)(hr:∀x∈s,0≤x∧x<n):s.length≤n:=by
 rcases SetOf.len h hr with e|e
 ·subst e;simp
 ·omega
end Go.Sx



namespace Go.Sx
structure DK (b:LI)(i:Int):Prop where
 byte:∀x∈b,0≤x∧x≤255
 len:b.length≤4096
 i0:0≤i
 i1:i≤b.length
theorem iand_u64_le (a:Int)(n:Nat)(hn:n<18446744073709551616):0≤iand .u64 a (n:Int)∧iand .u64 a (n:Int)≤n:=by
 have e:(BitVec.ofInt 64 (n:Int)).toNat=n:=by rw[BitVec.toNat_ofInt];omega
 have h:(BitVec.ofInt 64 a&&&BitVec.ofInt 64 (n:Int)).toNat≤n:=by
  rw[BitVec.toNat_and,e];exact Nat.and_le_right
 have w:∀m:Nat,m<18446744073709551616→IntKind.u64.wrap (m:Int)=m:=λm hm=>by
  simp[IntKind.wrap,IntKind.signed,IntKind.bits];omega
 have e2:iand .u64 a (n:Int)=(((BitVec.ofInt 64 a&&&BitVec.ofInt 64 (n:Int)).toNat:Nat):Int):=by
  show IntKind.u64.wrap (((BitVec.ofInt 64 a&&&BitVec.ofInt 64 (n:Int)).toNat:Nat):Int)=_
  exact w _ (by omega)
 rw[e2];omega
theorem tmod_rng {x n:Int}(hx:0≤x)(hn:0<n):0≤Int.tmod x n∧Int.tmod x n<n:=
 ⟨Int.tmod_nonneg _ hx,Int.tmod_lt_of_pos _ hn⟩
theorem below_ok {b:LI}{i:Int}(h:DK b i)(z n:Int)(hn:0<n):∃r i' z',D.j b i z n=some (r,b,i',z')∧0≤r∧r<n∧DK b i':=by
 obtain⟨h1,h2,h3,h4⟩:=h
 unfold D.j
 have hn0:(n==0)=false:=by simp;omega
 have hc:∀y:Int,0≤iand .u64 y 16777215∧iand .u64 y 16777215≤16777215:=λy=>iand_u64_le y 16777215 (by omega)
 by_cases hi:i<b.length
 ·have hb:=h1 _ (List.getElem_mem (show i.toNat<b.length by omega))
  simp only[hi,decide_true,cT,idx_int h3 hi,bs,hn0,cF]
  have hy:=hc (BI .u64 (IntKind.u64.wrap ((IntKind.u64.wrap (z*6364136223846793005))+1442695040888963407)) 33)
  generalize iand .u64 (BI .u64 (IntKind.u64.wrap ((IntKind.u64.wrap (z*6364136223846793005))+1442695040888963407)) 33) 16777215=y at hy ⊢
  rw[w64 (x:=y) (by omega) (by omega),w64 (x:=b[i.toNat]) (by omega) (by omega),w64 (x:=y+b[i.toNat]) (by omega) (by omega),w64 (x:=i+1) (by omega) (by omega)]
  have hr:=tmod_rng (x:=y+b[i.toNat]) (n:=n) (by omega) hn
  exact⟨_,_,_,rfl,hr.1,hr.2,h1,h2,by omega,by omega⟩
 ·simp only[hi,decide_false,cF,hn0]
  have hy:=hc (BI .u64 (IntKind.u64.wrap ((IntKind.u64.wrap (z*6364136223846793005))+1442695040888963407)) 33)
  generalize iand .u64 (BI .u64 (IntKind.u64.wrap ((IntKind.u64.wrap (z*6364136223846793005))+1442695040888963407)) 33) 16777215=y at hy ⊢
  rw[w64 (x:=y) (by omega) (by omega)]
  have hr:=tmod_rng (x:=y) (n:=n) (by omega) hn
  exact⟨_,_,_,rfl,hr.1,hr.2,h1,h2,h3,h4⟩
theorem C1 {b:LI}{i:Int}(h:DK b i)(z n:Int)(hn:0<n):∃y,D.j b i z n=some y∧(0≤y.1∧y.1<n∧y.2.1=b∧DK b y.2.2.1):=by
 obtain⟨r,i',z',e,h1,h2,h3⟩:=below_ok h z n hn
 exact⟨_,e,h1,h2,rfl,h3⟩
theorem roll_ok (code:LI)(seed:Int)(h:∀x∈code,0≤x∧x≤255)(hl:code.length≤4096):∃z,D.y0 code seed=some (code,0,z)∧DK code 0:=by
 unfold D.y0
 refine⟨_,(loop_listb code (λs i=>(i,s)) (λs e=>IntKind.u64.wrap ((IntKind.u64.wrap ((IntKind.u64.wrap (s*1099511628211))+(IntKind.u64.wrap e)))+3)) (λs=>s) (λ_=>True) _ trivial (λs i hi _=>⟨?_,trivial⟩) (λs _=> ?_)).trans rfl,h,hl,by omega,by omega⟩
 ·simp only[dlt hi,cT,AF hi,bs,wq i]
 ·simp only[Bs,cF]
theorem l1Empty_eq (n:Nat)(hn:n≤16):D.k0 (n:Int)=some (List.replicate n []):=by
 unfold D.k0
 refine(Dn (λi=>((i:Int),List.replicate i [])) n (List.replicate n []) (by simp) (λi hi=> ?_) ?_).trans rfl
 ·simp only[dlt hi,cT,wq i]
  rw[AY (by simp;omega),bs,←List.replicate_succ']
 ·simp only[Bs,cF]
theorem row_set {g:LL}{u v:Nat}{r:LI}(hu:u<g.length):row (g.set u r) v=if v=u then r else row g v:=by
 unfold row
 by_cases h:v=u
 ·subst h;simp[hu]
 ·rw[if_neg h,List.getD_eq_getElem?_getD,List.getElem?_set_ne (λe=>h e.symm),←List.getD_eq_getElem?_getD]
theorem EV {g:LL}(hg:GOk g){u v:Nat}(hu:u<g.length)(hv:v<g.length)(huv:u≠v):
  ∃g',D.F g (u:Int) (v:Int)=some g'∧GOk g'∧g'.length=g.length∧∀a b,adj g' a b↔adj g a b∨(a=u∧b=v)∨(a=v∧b=u):=by
 have h16:=hg.n16
 have hru:=hg.rows u hu;have hrv:=hg.rows v hv
 have hlu:=hg.row_len hu;have hlv:=hg.row_len hv
 refine⟨(g.set u (into (row g u) v)).set v (into (row g v) u),?_,?_⟩
 ·unfold D.F
  have e1:row (g.set u (into (row g u) v)) v=row g v:=by rw[row_set hu,if_neg (Ne.symm huv)]
  simp only[Cg hu,bs,DA _ _ hru.1 (show (row g u).length≤4294967295 by omega),Int.toNat_natCast]
  rw[Cg (show v<(g.set u (into (row g u) v)).length by simpa using hv),e1]
  simp only[bs,DA _ _ hrv.1 (show (row g v).length≤4294967295 by omega)]
 ·have hrow:∀w,row ((g.set u (into (row g u) v)).set v (into (row g v) u)) w=if w=v then into (row g v) u else if w=u then into (row g u) v else row g w:=by
   intro w
   rw[row_set (by simpa using hv),row_set hu]
  have hadj:∀a b,adj ((g.set u (into (row g u) v)).set v (into (row g v) u)) a b↔adj g a b∨(a=u∧b=v)∨(a=v∧b=u):=by
   intro a b
   unfold adj
   rw[hrow]
   by_cases ha:a=v
   ·subst ha
    rw[if_pos rfl,mem_into]
    constructor
    ·rintro(h|h)
     ·exact .inr (.inr ⟨rfl,by omega⟩)
     ·exact .inl h
    ·rintro(h|⟨h,_⟩|⟨_,h⟩)
     ·exact .inr h
     ·exact absurd h.symm huv
     ·exact .inl (by omega)
   ·rw[if_neg ha]
    by_cases ha':a=u
    ·subst ha'
     rw[if_pos rfl,mem_into]
     constructor
     ·rintro(h|h)
      ·exact .inr (.inl ⟨rfl,by omega⟩)
      ·exact .inl h
     ·rintro(h|⟨_,h⟩|⟨h,_⟩)
      ·exact .inr h
      ·exact .inl (by omega)
      ·exact absurd h ha
    ·rw[if_neg ha']
     constructor
     ·exact .inl
     ·rintro(h|⟨h,_⟩|⟨h,_⟩)
      ·exact h
      ·exact absurd h ha'
      ·exact absurd h ha
  refine⟨⟨by simpa using hg.n1,by simpa using h16,λw hw=> ?_,λw hw=> ?_,λa b ha hab=> ?_⟩,by simp,hadj⟩
  ·simp only[List.length_set] at hw ⊢
   rw[hrow]
   split
   ·refine⟨hrv.1.into _,λx hx=> ?_⟩
    rcases mem_into.1 hx with rfl|hx
    ·omega
    ·exact hrv.2 x hx
   ·split
    ·refine⟨hru.1.into _,λx hx=> ?_⟩
     rcases mem_into.1 hx with rfl|hx
     ·omega
     ·exact hru.2 x hx
    ·exact hg.rows w hw
  ·simp only[List.length_set] at hw
   rw[hadj]
   rintro(h|⟨h1,h2⟩|⟨h1,h2⟩)
   ·exact hg.irr w hw h
   ·omega
   ·omega
  ·simp only[List.length_set] at ha
   rw[hadj] at hab ⊢
   rcases hab with h|h|h
   ·exact .inl (hg.sym a b ha h)
   ·exact .inr (.inr ⟨h.2,h.1⟩)
   ·exact .inr (.inl ⟨h.2,h.1⟩)
theorem GOk.empty {n:Nat}(h1:1≤n)(h16:n≤16):GOk (List.replicate n []):=by
 have hr:∀v,row (List.replicate n []) v=[]:=λv=>by
  unfold row
  rw[List.getD_eq_getElem?_getD,List.getElem?_replicate];split<;>rfl
 refine⟨by simpa using h1,by simpa using h16,λv _=> ?_,λv _=> ?_,λu v _ h=> ?_⟩
 ·rw[hr];exact⟨by simp[Inc],by simp⟩
 ·unfold adj;rw[hr];simp
 ·unfold adj at h;rw[hr] at h;simp at h
def EdgeIn (n:Nat)(e:LI):Prop:=∃a b:Nat,e=[(a:Int),(b:Int)]∧a<b∧b<n
theorem setB_edge {n:Nat}{a b:Nat}(h:a<b)(hb:b<n):Dd [(a:Int),(b:Int)] n=true:=by
 rw[CO]
 refine⟨by simp[Inc];omega,λx hx=> ?_⟩
 simp at hx
 rcases hx with rfl|rfl<;>omega
theorem GraphOf_ok (n:Nat)(edges:LL)(h1:1≤n)(h16:n≤16)(he:edges.length≤120)(hE:∀e∈edges,EdgeIn n e):
  ∃g,D.Q (n:Int) edges=some (g,true)∧GOk g∧g.length=n∧∀a b:Nat,adj g a b↔([(a:Int),(b:Int)]∈edges∧a<b)∨([(b:Int),(a:Int)]∈edges∧b<a):=by
 unfold D.Q
 rw[DO]
 have e1:(decide ((1:Int)≤(n:Int))&&decide ((n:Int)≤16))=true:=by simp;omega
 have e2:decide ((120:Int)<(edges.length:Int))=false:=by simp;omega
 simp only[bs,e1,e2,Bool.not_true,Bool.or_false,cF,l1Empty_eq n h16]
 have key:∀(k i:Nat) (g:LL),i+k=edges.length→GOk g→g.length=n→(∀a b:Nat,adj g a b↔([(a:Int),(b:Int)]∈edges.take i∧a<b)∨([(b:Int),(a:Int)]∈edges.take i∧b<a))→
   ∃g',Ar (σ:=Int×LL) (ρ:=(LL) ⊕ ((LL)×Bool)) (fun(s_217:Int×LL)=>match s_217 with|(x_220,l_221)=>cond (decide (x_220<(edges.length:Int))) ((idx edges x_220).bind λe_319=>(cond ((e_319.length:Int) !=2) (some true) ((idx edges x_220).bind λe_356=>(D.B e_356 (n:Int)).bind λy_362=>some (!y_362))).bind λb_354=>cond b_354 (some (.inr (.inr (([]:LL),false)))) ((idx edges x_220).bind λe_375=>(idx e_375 0).bind λe_381=>(idx edges x_220).bind λe_387=>(idx e_387 1).bind λe_393=>(D.F l_221 e_381 e_393).bind λy_401=>some (.inl ((IntKind.i64.wrap (x_220+1)),y_401)))) (some (.inr (.inl l_221)))) ((i:Int),g)=some (.inl g')∧GOk g'∧g'.length=n∧(∀a b:Nat,adj g' a b↔([(a:Int),(b:Int)]∈edges∧a<b)∨([(b:Int),(a:Int)]∈edges∧b<a)):=by
  intro k
  induction k with
  |zero=>
   intro i g hi hg hl ha
   obtain rfl:i=edges.length:=by omega
   rw[List.take_length] at ha
   exact⟨g,Bo (by simp only[Bs,cF]),hg,hl,ha⟩
  |succ k ih=>
   intro i g hi hg hl ha
   have hil:i<edges.length:=by omega
   obtain⟨a,b,eab,hab,hbn⟩:=hE _ (List.getElem_mem hil)
   obtain⟨g',k1,k2,k3,k4⟩:=EV hg (u:=a) (v:=b) (by omega) (by omega) (by omega)
   obtain⟨g'',m1,m2⟩:=ih (i+1) g' (by omega) k2 (by omega) (λc d=>by
    rw[k4,ha,List.take_succ_eq_append_getElem hil]
    simp only[List.mem_append,List.mem_singleton,eab,List.cons.injEq,and_true]
    constructor
    ·rintro((⟨h,h'⟩|⟨h,h'⟩)|⟨rfl,rfl⟩|⟨rfl,rfl⟩)
     ·exact .inl ⟨.inl h,h'⟩
     ·exact .inr ⟨.inl h,h'⟩
     ·exact .inl ⟨.inr ⟨rfl,rfl⟩,hab⟩
     ·exact .inr ⟨.inr ⟨rfl,rfl⟩,hab⟩
    ·rintro(⟨h|⟨h,h2⟩,h'⟩|⟨h|⟨h,h2⟩,h'⟩)
     ·exact .inl (.inl ⟨h,h'⟩)
     ·exact .inr (.inl ⟨by omega,by omega⟩)
     ·exact .inl (.inr ⟨h,h'⟩)
     ·exact .inr (.inr ⟨by omega,by omega⟩))
   refine⟨g'',?_,m2⟩
   rw[BK (s':=(((i+1:Nat):Int),g'))]
   ·exact m1
   ·have h0:idx [(a:Int),(b:Int)] 0=some (a:Int):=rfl
    have h1':idx [(a:Int),(b:Int)] 1=some (b:Int):=rfl
    have hlen:((([(a:Int),(b:Int)]).length:Int) !=2)=false:=rfl
    simp only[dlt hil,cT,AF hil,eab,bs,hlen,cF,l1Set_eq [(a:Int),(b:Int)] n (by simp[Sh]) (by omega) (by omega),setB_edge hab hbn,Bool.not_true,h0,h1',k1,wq i]
 obtain⟨g',m1,m2,m3,m4⟩:=key edges.length 0 (List.replicate n []) (by omega) (GOk.empty h1 h16) (by simp) (λa b=>by
  unfold adj row
  rw[List.getD_eq_getElem?_getD,List.getElem?_replicate]
  split<;>simp)
 refine⟨g',?_,m2,m3,m4⟩
 rw[show ((0:Nat):Int)=0 from rfl] at m1
 rw[m1];rfl
theorem w9Graph_ok {b:LI}{i:Int}(h:DK b i)(z:Int)(most:Nat)(h1:1≤most)(h8:most≤8):
  ∃y,D.n0 b i z (most:Int)=some y∧(GOk y.1∧y.1.length≤most∧y.2.1=b∧DK b y.2.2.1):=by
 unfold D.n0
 refine B4 _ (C1 h z most (by omega)) ?_
 rintro⟨r,b1,i1,z1⟩ ⟨r0,r1,rfl,k1⟩
 dsimp only at r0 r1 k1 ⊢
 refine B4 _ (C1 k1 z1 3 (by omega)) ?_
 rintro⟨q,b2,i2,z2⟩ ⟨q0,q1,rfl,k2⟩
 dsimp only at q0 q1 k2 ⊢
 obtain⟨n,en,en'⟩:∃n:Nat,IntKind.i64.wrap (1+r)=(n:Int)∧(n:Int)=1+r:=⟨(1+r).toNat,by rw[w64 (by omega) (by omega)];omega,by omega⟩
 rw[en]
 refine AO (λs=>∃v:Nat,s.2.1=(v:Int)∧1≤v∧v≤n∧s.2.2.1=b2∧DK b2 s.2.2.2.1∧s.1.length≤8*v+v∧∀e∈s.1,EdgeIn n e) (λs=>n-s.2.1.toNat)
  (λr=>r.2.1=b2∧DK b2 r.2.2.1∧r.1.length≤120∧∀e∈r.1,EdgeIn n e) ?_ ?_ ?_
 ·rintro⟨l,_,b2,i,z⟩ ⟨v,rfl,g1,g2,rfl,hk,hl,hE⟩
  dsimp only at hk hl hE ⊢
  by_cases hv:v<n
  ·simp only[dlt hv,cT]
   refine AO (λs=>∃u:Nat,s.2.1=(u:Int)∧u≤v∧s.2.2.1=b2∧DK b2 s.2.2.2.1∧s.1.length≤8*v+v+u∧∀e∈s.1,EdgeIn n e) (λs=>v-s.2.1.toNat)
    (λr=>r.2.1=b2∧DK b2 r.2.2.1∧r.1.length≤8*v+v+v∧∀e∈r.1,EdgeIn n e) ?_ ⟨0,rfl,by omega,rfl,hk,by dsimp only;omega,hE⟩ ?_
   ·rintro⟨l,_,b2,i,z⟩ ⟨u,rfl,g3,rfl,hk,hl,hE⟩
    dsimp only at hk hl hE ⊢
    by_cases hu:u<v
    ·simp only[dlt hu,cT]
     refine B4 _ (C1 hk z 4 (by omega)) ?_
     rintro⟨t,b2,i3,z3⟩ ⟨t0,t1,rfl,hk'⟩
     dsimp only at t0 t1 hk' ⊢
     by_cases hc:t<IntKind.i64.wrap (1+q)
     ·simp only[hc,decide_true,cT,wq u]
      rw[AY (by simp;omega),bs]
      refine⟨_,rfl,⟨u+1,rfl,by omega,rfl,hk',by simp;omega,λe he=> ?_⟩,by dsimp only;omega⟩
      rcases List.mem_append.1 he with he|he
      ·exact hE e he
      ·simp at he;subst he;exact⟨u,v,rfl,hu,hv⟩
     ·simp only[hc,decide_false,cF,wq u]
      exact⟨_,rfl,⟨u+1,rfl,by omega,rfl,hk',by dsimp only;omega,hE⟩,by dsimp only;omega⟩
    ·obtain rfl:u=v:=by omega
     simp only[Bs,cF]
     exact⟨_,rfl,rfl,hk,by dsimp only;omega,hE⟩
   ·rintro⟨l,b2,i3,z3⟩ ⟨rfl,hk',hl',hE'⟩
    dsimp only at hk' hl' hE' ⊢
    simp only[wq v]
    exact⟨_,rfl,⟨v+1,rfl,by omega,by omega,rfl,hk',by dsimp only;omega,hE'⟩,by dsimp only;omega⟩
  ·obtain rfl:v=n:=by omega
   simp only[Bs,cF]
   exact⟨_,rfl,rfl,hk,by dsimp only;omega,hE⟩
 ·exact⟨1,rfl,by omega,by omega,rfl,k2,by simp,by simp⟩
 ·rintro⟨l,b2,i3,z3⟩ ⟨rfl,hk,hl,hE⟩
  dsimp only at hk hl hE ⊢
  obtain⟨g,m1,m2,m3,_⟩:=GraphOf_ok n l (by omega) (by omega) hl hE
  rw[m1,bs]
  exact⟨_,rfl,m2,by dsimp only;omega,rfl,hk⟩
end Go.Sx



namespace Go.Sx
def nb (F:LI)(u w:Nat):Bool:=has (F.getD u 0) w
structure FOk (F:LI)(n:Nat):Prop where
 len:F.length=n
 vs:∀u,u<n→VS (F.getD u 0)
 lt:∀u w,u<n→nb F u w=true→w<n
 irr:∀u,u<n→nb F u u=false
 sym:∀u w,u<n→nb F u w=true→nb F w u=true
theorem Fh (g:LL)(u:Nat):(g.map mk).getD u 0=mk (row g u):=by
 unfold row
 simp only[List.getD_eq_getElem?_getD,List.getElem?_map]
 cases g[u]? with
 |none=>simp[mk]
 |some r=>rfl
theorem CZ {g:LL}(hg:GOk g){u w:Nat}(hu:u<g.length):nb (g.map mk) u w=true↔adj g u w:=by
 have h16:=hg.n16
 unfold nb
 rw[Fh,has_mk (λx hx=>by have:=(hg.rows u hu).2 x hx;omega)]
 simp[adj]
theorem FOk.of {g:LL}(hg:GOk g):FOk (g.map Sx.mk) g.length:=by
 refine⟨by simp,λu _=>by rw[Fh];exact VS.mk _,λu w hu h=>hg.lt hu ((CZ hg hu).1 h),λu hu=> ?_,λu w hu h=> ?_⟩
 ·cases h:nb (g.map Sx.mk) u u
  ·rfl
  ·exact absurd ((CZ hg hu).1 h) (hg.irr u hu)
 ·have ha:=(CZ hg hu).1 h
  exact(CZ hg (hg.lt hu ha)).2 (hg.sym u w hu ha)
def grow (F:LI):LL:=F.map Aj
theorem row_grow (F:LI)(u:Nat):row (grow F) u=Aj (F.getD u 0):=by
 unfold row grow
 simp only[List.getD_eq_getElem?_getD,List.getElem?_map]
 cases F[u]? with
 |none=>simp[elems_zero]
 |some r=>rfl
theorem Ey {F:LI}{n u w:Nat}(h:FOk F n)(hu:u<n):adj (grow F) u w↔nb F u w=true:=by
 unfold adj nb
 rw[row_grow,AG (h.vs u hu)]
theorem GOk.grow {F:LI}{n:Nat}(h:FOk F n)(h1:1≤n)(h16:n≤16):GOk (grow F):=by
 have hl:(Sx.grow F).length=n:=by unfold Sx.grow;rw[List.length_map,h.len]
 refine⟨by omega,by omega,λv hv=> ?_,λv hv ha=> ?_,λu v hu ha=> ?_⟩
 ·rw[row_grow,hl]
  refine⟨Bl _,λx hx=> ?_⟩
  obtain⟨w,_,h2,rfl⟩:=mem_elems.1 hx
  have:=h.lt v w (by omega) h2
  omega
 ·rw[Ey h (by omega)] at ha
  rw[h.irr v (by omega)] at ha;cases ha
 ·rw[Ey h (by omega)] at ha
  have:=h.lt u v (by omega) ha
  rw[Ey h (by omega)]
  exact h.sym u v (by omega) ha
theorem mk_elems {s:Int}(h:VS s):mk (Aj s)=s:=by
 refine(VS.mk _).ext h (λv hv=> ?_)
 rw[has_mk (λx hx=>by obtain⟨w,h1,_,rfl⟩:=mem_elems.1 hx;omega),Bool.eq_iff_iff,decide_eq_true_eq,AG h]
theorem all_mask :∀n:Fin 17,∀v:Fin 32,has (IntKind.u32.wrap (ishl .u32 1 (n.val:Int)-1)) v.val=decide (v.val<n.val):=by decide+kernel
def PEO (F:LI)(o:LI):Prop:=∀(j:Nat) (v u w:Nat),o[j]? =some (v:Int)→nb F v u=true→nb F v w=true→(u:Int)∉o.take (j+1)→(w:Int)∉o.take (j+1)→u≠w→nb F u w=true
def Lat (F L:LI)(o:LI)(i:Nat):Prop:=∀(j:Nat) (v:Nat),j<i→o[j]? =some (v:Int)→∀w,nb L v w=(nb F v w&&decide ((w:Int)∉o.take (j+1)))
inductive Via (F:LI)(gone:Nat→Prop)(u:Nat):Nat→Prop
 |me:Via F gone u u
 |step {x y:Nat}:Via F gone u x→nb F x y=true→gone y→Via F gone u y
def Bhd (F:LI)(gone:Nat→Prop)(v w:Nat):Prop:=∃x,Via F gone v x∧nb F x w=true
def cnt (n k:Nat):Nat:=((List.range k).filter (λi=>n.testBit i)).length
theorem cnt_add (n a b:Nat):cnt n (a+b)=cnt n a+cnt (n>>>a) b:=by
 unfold cnt
 rw[List.range_add,List.filter_append,List.length_append,List.filter_map,List.length_map]
 congr 2
 apply List.filter_congr
 intro i _
 simp[Nat.testBit_shiftRight]
theorem cnt_mod (n k:Nat):cnt (n%2^k) k=cnt n k:=by
 unfold cnt
 congr 1
 apply List.filter_congr
 intro i hi
 have:=List.mem_range.1 hi
 rw[Nat.testBit_mod_two_pow];simp[this]
theorem elems_length (n:Nat):(Aj (n:Int)).length=cnt n 32:=by
 unfold Aj cnt
 rw[List.length_map]
 rfl
theorem pop_all :∀b:Fin 256,D9 Es (b.val:Int)=some ((cnt b.val 8:Nat):Int):=by decide+kernel
theorem pop_at {b:Nat}(h:b<256):D9 Es (b:Int)=some ((cnt b 8:Nat):Int):=pop_all ⟨b,h⟩
theorem cnt_le (n k:Nat):cnt n k≤k:=by
 unfold cnt
 exact Nat.le_trans (List.length_filter_le _ _) (by simp)
theorem wrap8 {x:Int}(h0:0≤x)(h:x<256):IntKind.u8.wrap x=x:=by
 simp[IntKind.wrap,IntKind.signed,IntKind.bits];omega
theorem OnesCount32_eq {s:Int}(h:VS s):D.a1 s=some ((Aj s).length:Int):=by
 obtain⟨n,rfl,hn⟩:=h.nat
 have s24:BI .u32 (n:Int) 24=((n>>>24:Nat):Int):=shr_eq (n:Int) 24 h (by omega)
 have s16:BI .u32 (n:Int) 16=((n>>>16:Nat):Int):=shr_eq (n:Int) 16 h (by omega)
 have s8:BI .u32 (n:Int) 8=((n>>>8:Nat):Int):=shr_eq (n:Int) 8 h (by omega)
 have lt:∀k,n>>>k<4294967296:=λk=>by
  rw[Nat.shiftRight_eq_div_pow];exact Nat.lt_of_le_of_lt (Nat.div_le_self _ _) hn
 have a255:∀m:Nat,m<4294967296→iand .u32 (m:Int) 255=((m%256:Nat):Int):=λm hm=>by
  have:=D1 hm (show (255:Nat)<4294967296 by omega)
  rw[show ((255:Nat):Int)=255 from rfl] at this
  rw[this]
  congr 1
  exact Nat.and_two_pow_sub_one_eq_mod (n:=8) m
 have h24:n>>>24<256:=by rw[Nat.shiftRight_eq_div_pow];exact Nat.div_lt_of_lt_mul (by simpa using hn)
 have ec:cnt n 32=cnt (n%256) 8+cnt (n>>>8%256) 8+cnt (n>>>16%256) 8+cnt (n>>>24) 8:=by
  rw[show (32:Nat)=8+(8+(8+8)) from rfl,cnt_add n 8,cnt_add _ 8,cnt_add _ 8]
  have e1:=cnt_mod n 8;have e2:=cnt_mod (n>>>8) 8;have e3:=cnt_mod (n>>>16) 8
  simp only[show (2:Nat)^8=256 from rfl] at e1 e2 e3
  rw[e1,e2,e3]
  simp only[←Nat.shiftRight_add,Nat.reduceAdd]
  omega
 unfold D.a1
 rw[s24,s16,s8,a255 _ (lt 16),a255 _ (lt 8),a255 n hn,pop_at h24,pop_at (Nat.mod_lt _ (by omega)),pop_at (Nat.mod_lt _ (by omega)),pop_at (Nat.mod_lt _ (by omega))]
 simp only[bs]
 have c1:=cnt_le (n>>>24) 8;have c2:=cnt_le (n>>>16%256) 8;have c3:=cnt_le (n>>>8%256) 8;have c4:=cnt_le (n%256) 8
 generalize cnt (n>>>24) 8=a at*;generalize cnt (n>>>16%256) 8=b at*;generalize cnt (n>>>8%256) 8=c at*;generalize cnt (n%256) 8=d at*
 rw[wrap8 (x:=(a:Int)+b) (by omega) (by omega),wrap8 (x:=(a:Int)+b+c) (by omega) (by omega),wrap8 (x:=(a:Int)+b+c+d) (by omega) (by omega),w64 (by omega) (by omega),elems_length,ec]
 congr 1
 omega
theorem Eg {s:Int}(h:VS s):D.k s=some ((Aj s).length:Int):=by
 unfold D.k;rw[OnesCount32_eq h];rfl
theorem BG :∀{l m:LI},l.Nodup→(∀x∈l,x∈m)→l.length≤m.length
 |[],_,_,_=>by simp
 |x::l,m,h,hs=>by
  have h':=List.nodup_cons.1 h
  have hx:=hs x (by simp)
  have:=BG (l:=l) (m:=m.erase x) h'.2 (λy hy=>by
   have hne:y≠x:=λe=>h'.1 (e▸hy)
   exact(List.mem_erase_of_ne hne).2 (hs y (by simp[hy])))
  rw[List.length_erase_of_mem hx] at this
  have hp:0<m.length:=List.length_pos_of_mem hx
  simp;omega
theorem Inc.nodup {l:LI}(h:Inc l):l.Nodup:=List.Pairwise.imp (λh e=>by omega) h
def withV (bags:LL)(v:Int):LI:=((List.range bags.length).filter λb=>decide (v∈bags.getD b [])).map Int.ofNat
def Lk (links:LL)(x y:Int):Prop:=[x,y]∈links∨[y,x]∈links
structure Closed (links:LL)(sel m:LI):Prop where
 sub:∀x∈m,x∈sel
 first:∀x,sel.head? =some x→x∈m
 step:∀x∈m,∀y∈sel,Lk links x y→y∈m
def Conn (links:LL)(sel:LI):Prop:=∀m,Closed links sel m→∀x∈sel,x∈m
def LinkIn (n:Nat)(l:LI):Prop:=∃a b:Nat,l=[(a:Int),(b:Int)]∧a<b∧b<n
theorem GOk.sh2 {g:LL}(hg:GOk g):Sh2 g:=by
 have h16:=hg.n16
 exact⟨by unfold Sh;omega,λr hr=>by have:=(hg.mem0 hr).1;unfold Sh;omega⟩
theorem Cv {g:LL}(hg:GOk g):gB g=true:=(gB_iff g).2 hg
theorem nets_graph_eq (F:LI)(h:F.length≤16)(hV:∀u,u<F.length→VS (F.getD u 0)):D.F0 F=some (grow F):=by
 unfold D.F0
 refine(Ew F (λs i=>(i,s)) Aj (by omega) (λs i hi _=> ?_) (λs=> ?_)).trans rfl
 ·have:=hV i hi
  rw[A6 hi] at this
  simp only[dlt hi,cT,AF hi,bs,numbers_eq _ this,wq i]
 ·simp only[Bs,cF]
theorem grow_len (F:LI):(grow F).length=F.length:=by simp[grow]
def RowOk (t N:LI):Prop:=(t.length=N.length∧∀k (hk:k<t.length),t[k]∈N∧t[k]∉t.take k)∧(0<t.length→t.getD 0 0=N.getD 0 0)
def cz :LI→LI→Int
 |[],[]=>0
 |[],_::_=> -1
 |_::_,[]=>1
 |a::x,b::y=>if a<b then-1 else if b<a then 1 else cz x y
theorem cmp_int (a b:Int):D.m0 a b=some (if a<b then-1 else if b<a then 1 else 0):=by
 unfold D.m0 D.q0
 simp only[bne_self_eq_false,bs,cF]
 by_cases h:a<b
 ·simp[h]
 ·by_cases h2:b<a<;>simp[h,h2]
theorem compare_eq (x y:LI)(hx:Sh x)(hy:Sh y):D.A0 x y=some (cz x y):=by
 unfold Sh at hx hy
 unfold D.A0
 have key:∀(K:Unit ⊕ Int→Option Int),K (.inl ())=cond (decide ((x.length:Int)<(y.length:Int))) (some (-1)) (some 0)→(∀z,K (.inr z)=some z)→∀(k i:Nat),i+k=x.length→(i≤y.length)→(Ar (σ:=Int) (ρ:=(Unit) ⊕ (Int)) (fun(x_54:Int)=>cond (decide (x_54<(x.length:Int))) ((idx x x_54).bind λe_81=>cond (decide ((y.length:Int)≤x_54)) (some (.inr (.inr 1))) ((idx y x_54).bind λe_88=>(D.m0 e_81 e_88).bind λy_94=>cond (y_94 !=0) (some (.inr (.inr y_94))) (some (.inl (IntKind.i64.wrap (x_54+1)))))) (some (.inr (.inl ())))) (i:Int)).bind K=some (cz (x.drop i) (y.drop i)):=by
  intro K hK1 hK2 k
  induction k with
  |zero=>
   intro i hi hiy
   obtain rfl:i=x.length:=by omega
   rw[Bo (r:=Sum.inl ()) (by simp only[Bs,cF])]
   simp only[bs,List.drop_length,hK1]
   by_cases h:x.length<y.length
   ·have e:decide ((x.length:Int)<(y.length:Int))=true:=by simp;omega
    rw[e,cT,List.drop_eq_getElem_cons h];rfl
   ·have e:decide ((x.length:Int)<(y.length:Int))=false:=by simp;omega
    rw[e,cF,List.drop_eq_nil_of_le (by omega)];rfl
  |succ k ih=>
   intro i hi hiy
   have hix:i<x.length:=by omega
   by_cases h:i<y.length
   ·have e:decide ((y.length:Int)≤(i:Int))=false:=by simp;omega
    rw[List.drop_eq_getElem_cons hix,List.drop_eq_getElem_cons h]
    by_cases h1:x[i]<y[i]
    ·rw[Bo (r:=Sum.inr (-1)) (by simp only[dlt hix,cT,AF hix,AF h,bs,e,cF,cmp_int,h1,if_true];rfl),bs,hK2]
     simp[cz,h1]
    ·by_cases h2:y[i]<x[i]
     ·rw[Bo (r:=Sum.inr 1) (by simp only[dlt hix,cT,AF hix,AF h,bs,e,cF,cmp_int,h1,h2,if_true,if_false];rfl),bs,hK2]
      simp[cz,h1,h2]
     ·rw[BK (s':=((i+1:Nat):Int)) (by simp only[dlt hix,cT,AF hix,AF h,bs,e,cF,cmp_int,h1,h2,if_false,wq i];rfl),ih (i+1) (by omega) (by omega)]
      simp[cz,h1,h2]
   ·obtain rfl:i=y.length:=by omega
    have e:decide ((y.length:Int)≤(y.length:Int))=true:=by simp
    rw[Bo (r:=Sum.inr 1) (by simp only[dlt hix,cT,AF hix,bs,e]),bs,hK2]
    simp only[List.drop_length]
    rw[List.drop_eq_getElem_cons hix];rfl
 exact key _ rfl (λ_=>rfl) x.length 0 (by omega) (by omega)
def lk :Nat→LI→Int
 |0,_=>0
 |_+1,[]=>0
 |d+1,a::l=>(a+1)*33^d+lk d l
theorem pow33 (d:Nat):(1:Int)≤33^d:=by
 have:(0:Int)<33^d:=Int.pow_pos (by omega)
 omega
theorem Dr :∀(d:Nat) (l:LI),(∀x∈l,0≤x∧x<32)→0≤lk d l∧lk d l<33^d
 |0,l,_=>by simp[lk]
 |d+1,[],_=>by have:=pow33 (d+1);simp only[lk];omega
 |d+1,a::l,h=>by
  have h1:=Dr d l (λx hx=>h x (List.mem_cons_of_mem _ hx))
  have ha:=h a (by simp)
  have hp:=pow33 d
  simp only[lk]
  generalize hq:(33:Int)^d=p at*
  have e:(33:Int)^(d+1)=p*33:=by rw[←hq,Int.pow_succ]
  rw[e]
  have h2:(a+1)*p≤32*p:=Int.mul_le_mul_of_nonneg_right (by omega) (by omega)
  have h3:0≤(a+1)*p:=Int.mul_nonneg (by omega) (by omega)
  omega
theorem lk_cmp :∀(d:Nat) (x y:LI),x.length≤d→y.length≤d→(∀z∈x,0≤z∧z<32)→(∀z∈y,0≤z∧z<32)→(cz x y<0↔lk d x<lk d y)
 |d,[],[],_,_,_,_=>by cases d<;>simp[cz,lk]
 |0,_::_,_,h,_,_,_=>by simp at h
 |0,_,_::_,_,h,_,_=>by simp at h
 |d+1,[],b::y,_,h,_,hy=>by
  have h1:=Dr d y (λx hx=>hy x (List.mem_cons_of_mem _ hx))
  have hb:=hy b (by simp)
  have hp:=pow33 d
  simp only[cz,lk]
  have h3:1*(33:Int)^d≤(b+1)*33^d:=Int.mul_le_mul_of_nonneg_right (by omega) (by omega)
  constructor
  ·intro _;omega
  ·intro _;omega
 |d+1,a::x,[],h,_,hx,_=>by
  have h1:=Dr d x (λz hz=>hx z (List.mem_cons_of_mem _ hz))
  have ha:=hx a (by simp)
  have hp:=pow33 d
  simp only[cz,lk]
  have h3:1*(33:Int)^d≤(a+1)*33^d:=Int.mul_le_mul_of_nonneg_right (by omega) (by omega)
  constructor
  ·intro hc;omega
  ·intro hc;omega
 |d+1,a::x,b::y,hlx,hly,hx,hy=>by
  have ih:=lk_cmp d x y (by simpa using hlx) (by simpa using hly) (λz hz=>hx z (List.mem_cons_of_mem _ hz)) (λz hz=>hy z (List.mem_cons_of_mem _ hz))
  have h1:=Dr d x (λz hz=>hx z (List.mem_cons_of_mem _ hz))
  have h2:=Dr d y (λz hz=>hy z (List.mem_cons_of_mem _ hz))
  have hp:=pow33 d
  simp only[cz,lk]
  by_cases hab:a<b
  ·rw[if_pos hab]
   have h3:(a+1+1)*(33:Int)^d≤(b+1)*33^d:=Int.mul_le_mul_of_nonneg_right (by omega) (by omega)
   have h4:(a+1+1)*(33:Int)^d=(a+1)*33^d+33^d:=by rw[Int.add_mul (a+1) 1,Int.one_mul]
   constructor
   ·intro _;omega
   ·intro _;omega
  ·by_cases hba:b<a
   ·rw[if_neg hab,if_pos hba]
    have h3:(b+1+1)*(33:Int)^d≤(a+1)*33^d:=Int.mul_le_mul_of_nonneg_right (by omega) (by omega)
    have h4:(b+1+1)*(33:Int)^d=(b+1)*33^d+33^d:=by rw[Int.add_mul (b+1) 1,Int.one_mul]
    constructor
    ·intro hc;omega
    ·intro hc;omega
   ·rw[if_neg hab,if_neg hba]
    obtain rfl:a=b:=by omega
    rw[ih];omega
theorem E1 (s:Int):∀z∈Aj s,0≤z∧z<32:=λz hz=>by
 obtain⟨v,h1,_,rfl⟩:=mem_elems.1 hz;omega
def lkey (s:Int):Int:=lk 32 (Aj s)
def skey (s:Int):Int:=((Aj s).length:Int)*33^32+lkey s
theorem lkey_bound (s:Int):0≤lkey s∧lkey s<33^32:=Dr 32 _ (E1 s)
theorem EQ {s t:Int}(hs:VS s)(ht:VS t)(h:Aj s=Aj t):s=t:=by rw[←mk_elems hs,←mk_elems ht,h]
theorem compareSets_eq {s t:Int}(hs:VS s)(ht:VS t):D.H0 s t=some (cz (Aj s) (Aj t)):=by
 unfold D.H0
 rw[DN s hs,bs,DN t ht,bs,compare_eq _ _ (EG s) (EG t)]
 rfl
theorem bySize_eq {s t:Int}(hs:VS s)(ht:VS t):D.a s t=some (if(Aj s).length=(Aj t).length then cz (Aj s) (Aj t) else((Aj s).length:Int)-(Aj t).length):=by
 have h1:=Bb s;have h2:=Bb t
 unfold D.a
 simp only[Eg hs,Eg ht,bs,compareSets_eq hs ht]
 by_cases h:(Aj s).length=(Aj t).length
 ·rw[if_pos h,h];simp
 ·rw[if_neg h]
  have:(((Aj s).length:Int) !=((Aj t).length:Int))=true:=by rw[bne_iff_ne];omega
  rw[this,cT,w64 (by omega) (by omega)]
theorem skey_lt {s t:Int}:skey s<skey t↔(if(Aj s).length=(Aj t).length then cz (Aj s) (Aj t) else((Aj s).length:Int)-(Aj t).length)<0:=by
 have h1:=lkey_bound s;have h2:=lkey_bound t
 unfold skey
 by_cases h:(Aj s).length=(Aj t).length
 ·rw[if_pos h,h,lk_cmp 32 _ _ (Bb s) (Bb t) (E1 s) (E1 t)]
  unfold lkey
  omega
 ·rw[if_neg h]
  have key:∀(p:Int) (a b:Nat) (x y:Int),a<b→0≤x→x<p→0≤y→(a:Int)*p+x<b*p+y:=by
   intro p a b x y hab hx hxp hy
   have h3:((a:Int)+1)*p≤b*p:=Int.mul_le_mul_of_nonneg_right (by omega) (by omega)
   have h4:((a:Int)+1)*p=a*p+p:=by rw[Int.add_mul,Int.one_mul]
   omega
  rcases Nat.lt_or_gt_of_ne h with c|c
  ·have:=key (33^32) _ _ (lkey s) (lkey t) c h1.1 h1.2 h2.1
   constructor
   ·intro _;omega
   ·intro _;exact this
  ·have:=key (33^32) _ _ (lkey t) (lkey s) c h2.1 h2.2 h1.1
   constructor
   ·intro hc;omega
   ·intro hc;omega
noncomputable abbrev bySz :Gs.Srtd Int where
 dflt:=0
 key:=skey
 good:=VS
 cmp:=D.a
 law:=λs t hs ht=>⟨_,bySize_eq hs ht,by rw[decide_eq_decide];exact skey_lt.symm⟩
theorem CJ :D.x1=DG.insertionSort D.a:=by kernel_rfl
theorem C6 :D.j1=DG.heapSort D.a:=by kernel_rfl
theorem CI :D.t1=DG.breakPatterns D.a:=by kernel_rfl
theorem CT :D.h1=DG.choosePivot D.a:=by kernel_rfl
theorem CM :D.u1=DG.reverseRange D.a:=by kernel_rfl
theorem Cw :D.w1=DG.partialInsertionSort D.a:=by kernel_rfl
theorem CF :D.m1=DG.partitionEqual D.a:=by kernel_rfl
theorem C3 :D.p1=DG.partition D.a:=by kernel_rfl
theorem Cs :∀(n:Nat) x a b c,D.O n x a b c=DG.pdqsortR D.a n x a b c
 |0,_,_,_,_=>rfl
 |n+1,x,a,b,c=>by
  unfold D.O DG.pdqsortR
  rw[CJ,C6,CI,CT,CM,Cw,CF,C3,funext (λx=>funext λa=>funext λb=>funext λc=>Cs n x a b c)]
  kernel_rfl
theorem DS (x):D.W0 x=DG.Sort D.a x:=by
 unfold D.W0 DG.Sort D.s DG.pdqsort
 simp only[Cs]
theorem l1Edge_eq (g:LL)(hg:GOk g){u:Nat}(hu:u<g.length)(w:Int):D.X0 g (u:Int) w=some (decide (w∈row g u)):=by
 unfold D.X0
 rw[Cg hu,bs,CN _ _ (hg.sh2.row hu)];rfl
end Go.Sx
