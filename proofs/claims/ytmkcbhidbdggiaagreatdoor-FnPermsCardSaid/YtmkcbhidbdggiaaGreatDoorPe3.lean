/- Parts. -/
import Derived.Test.YtmkcbhidbdggiaaGreatDoorPe2
import Derived.Test.YtmkcbhidbdggiaaGreatDoorProg
import Derived.KernelRfl
set_option linter.unusedVariables false
set_option linter.unusedSimpArgs false
set_option maxRecDepth 100000
namespace Go.Proofs.YtmkcbhidbdggiaaGreatDoor
open Go Go.Sx
open Go.Proofs.Tryz Go.Proofs.YtmkcbhidbdggiaaGreatDoor.Tryz IntKind
variable {W w : World} {G : GH} {H : List Itm}
theorem Az :prog.follows .mixedOrders=true:=by kernel_rfl
theorem Pl2 :B3 prog 2:=isAgg2
theorem T28 :SlT prog 28 2 1 8 (iv 0):=⟨underlying28,Tryz.t2,by kernel_rfl,by kernel_rfl,by kernel_rfl,by kernel_rfl⟩
theorem Pl163 :B3 prog 163:=isAgg163
theorem Pl3 :B3 prog 3:=isAgg3
theorem Pl5 :B3 prog 5:=isAgg5
theorem T58 :SlT prog 58 65 1 4 (.int .u32 0):=⟨underlying58,Tryz.t65,by kernel_rfl,by kernel_rfl,by kernel_rfl,by kernel_rfl⟩
theorem Wk.j1 {v0:Value}{b0:Nat}{x0:LI}(m:Mem W G w (ib b0 28 [v0]::H))(h0:R1 G v0 x0){y:(LI)}(hd:D.j1 x0=some y):
  Calls prog 110 #[(.func (.func 112) #[] #[(pb b0)])] w (Res W G H (λG' Ho v=>∃r0:Value,∃i0:Itm,Ho=[i0]∧r0=v∧Ow R0 2 G' i0 r0 y)):=by
 refine Au (args:=[(.func (.func 112) #[] #[(pb b0)])]) (N:=5) [.tmp 2] func110 Z Z (lb Z) Z λa f=> ?_
 unfold D.j1 at hd
 refine Ag ?_
 refine Ac f Z λa f=>Ay ?_
 refine Aa f Z λa f=> ?_
 have⟨aa,ab,hd⟩:=bind_some hd
 refine AT f Z call122 (Wk.c1 m h0 ab) λac ad ae w af m ag a f=> ?_
 obtain⟨ah,ai,rfl,rfl,aj⟩:=ag
 refine Ac f Z λa f=>Ab ?_
 refine Ar ?_
 obtain rfl:=sj hd
 exact⟨[ah],f.g Z,f.d,_,[ai],af,m,_,_,Z,Z,aj⟩
theorem Wk.d0 {x0:Int}(m:Mem W G w (H)){y:Bool}(hd:D.d0 x0=some y):
  Calls prog 157 #[(iv x0)] w (Res W G H (λ_ Ho v=>Ho=[]∧v=(.bool y))):=by
 refine Au (args:=[(iv x0)]) (N:=6) [.tmp 2] func157 Z Z (lb Z) Z λa f=> ?_
 unfold D.d0 at hd
 refine Ag ?_
 refine Ac f Z λa f=>Ay ?_
 refine Aa f Z λa f=>Aa f Z λa f=>Ai f Z Z C5 λa f=>Ac f Z λa f=>Ab ?_
 refine Ar ?_
 obtain rfl:=sj hd
 exact⟨[(.bool (x0 !=x0))],f.g Z,f.d,_,[],gr,m,Z,Z⟩
theorem Wk.a {x0 x1:Int}(m:Mem W G w (H)){y:Bool}(hd:D.a x0 x1=some y):
  Calls prog 137 #[(iv x0),(iv x1)] w (Res W G H (λ_ Ho v=>Ho=[]∧v=(.bool y))):=by
 refine Au (args:=[(iv x0),(iv x1)]) (N:=17) [.tmp 4] func137 Z Z (lb Z) Z λa f=> ?_
 unfold D.a at hd
 refine Ag ?_
 refine Ac f Z λa f=>Ay ?_
 refine Aa f Z λa f=> ?_
 have⟨aa,ab,hd⟩:=bind_some hd
 refine Bk f Z call157 (Wk.d0 m ab) λac w ad m a f=>Aa f Z λa f=> ?_
 have⟨ae,af,hd⟩:=bind_some hd
 refine Br 4 (λa w=>∃ag,GLe ac ag∧Mem W ag w (H)∧Fr a 17 [(0,(iv x0)),(1,(iv x1)),(5,(iv x0)),(6,(.bool aa)),(7,(.bool aa)),(11,(.bool ae))]) ?_ ?_
 ·rcases Af af with⟨ah,af⟩|⟨ah,af⟩
  ·refine AD f ah ?_
   refine Aa f Z λa f=>AD f ah ?_
   have⟨ai,aj,af⟩:=bind_some af
   refine Bk f Z call157 (Wk.d0 m aj) λak w al m a f=>AD f ah ?_
   refine l_o f (Bg (f.e Z)) λa f=>l_o f (AS (f.e Z) ah (f.e Z)) λa f=> ?_
   obtain rfl:=sj af
   exact⟨_,al,m,f.k Z⟩
  ·refine AE f ah λa f=> ?_
   refine AE f ah λa f=>AE f ah λa f=>l_o f (AR (f.e Z) ah (f.e Z)) λa f=> ?_
   obtain rfl:=sj af
   exact⟨_,gr,m,f.k Z⟩
 ·rintro a w ⟨ag,am,m,f⟩
  refine Aa f Z λa f=> ?_
  refine Br 4 (λa w=>∃an,GLe ag an∧Mem W an w (H)∧Fr a 17 [(0,(iv x0)),(1,(iv x1)),(5,(iv x0)),(6,(.bool aa)),(7,(.bool aa)),(11,(.bool ae)),(12,(.bool ae)),(16,(.bool (ae||(decide (x0<x1)))))]) ?_ ?_
  ·rcases Bool.eq_false_or_eq_true ae with ao|ao
   ·refine AE f ao λa f=> ?_
    refine AE f ao λa f=>AE f ao λa f=>l_o f (AS (f.e Z) ao (f.e Z)) λa f=> ?_
    exact⟨_,gr,m,f.weak ⟨Z,Z,Z,Z,Z,Z,Z,by rw[ao];rfl,trivial⟩⟩
   ·refine AD f ao ?_
    refine Aa f Z λa f=>AD f ao ?_
    refine Aa f Z λa f=>AD f ao ?_
    refine Ai f Z Z AV λa f=>l_o f (AR (f.e Z) ao (f.e Z)) λa f=> ?_
    exact⟨_,gr,m,f.weak ⟨Z,Z,Z,Z,Z,Z,Z,by rw[ao];rfl,trivial⟩⟩
  ·rintro a w ⟨an,ap,m,f⟩
   refine Ac f Z λa f=>Ab ?_
   refine Ar ?_
   obtain rfl:=sj hd
   exact⟨[(.bool (ae||(decide (x0<x1))))],f.g Z,f.d,_,[],(gt ad (gt am ap)),m,Z,Z⟩
theorem Wk.o0 {v0:Value}{it0:Itm}{x0:LI}{x1 x2:Int}(m:Mem W G w (it0::H))(o0:Ow R0 2 G it0 v0 x0){y:(LI)}(hd:D.o0 x0 x1 x2=some y):
  Calls prog 131 #[v0,(iv x1),(iv x2)] w (Res W G H (λG' Ho _=>∃i0:Itm,Ho=[i0]∧Ow R0 2 G' i0 v0 y)):=by
 refine Au (args:=[v0,(iv x1),(iv x2)]) (N:=49) [] func131 Z Z (lb Z) Z λa f=> ?_
 unfold D.o0 at hd
 refine Ag ?_
 refine Aa f Z λa f=>Ai f Z Z As λa f=>Ac f Z λa f=>Ab ?_
 have⟨aa,ab,hd⟩:=bind_some hd
 refine AJ (λa w=>∃ac:LI,ac=aa∧∃(ad:GH) (ae:Itm),GLe G ad∧Fr a 49 []∧Mem W ad w (ae::H)∧Ow R0 2 ad ae v0 ac) ?_ ?_
 ·refine Ak ?_
  refine AK (λaf a w=>∃ag:LI,∃ah:Int,(ag,ah)=af∧∃(ai:GH) (aj:Itm),GLe G ai∧Fr a 49 [(0,v0),(1,(iv x1)),(2,(iv x2)),(6,(iv ah))]∧Mem W ai w (aj::H)∧Ow R0 2 ai aj v0 ag) ab ⟨_,_,Z,_,it0,gr,f.k Z,m,o0⟩ ?_
  clear ab f m
  rintro af ak al am a w ⟨ag,ah,rfl,ai,aj,an,f,m,ao⟩
  refine Ah (Ag ?_)
  refine Aa f Z λa f=>Aa f Z λa f=>Ai f Z Z AV λa f=>Ab ?_
  rcases Af al with⟨ap,al⟩|⟨ap,al⟩
  ·refine Al f Z ap ?_
   refine An ?_
   refine Ah (Ak (Ag ?_))
   refine Aa f Z λa f=>Ac f Z λa f=>Ab ?_
   have⟨aq,ar,al⟩:=bind_some al
   refine AJ (λa w=>∃au:LI,au=aq∧∃(av:GH) (aw:Itm),GLe ai av∧Fr a 49 [(0,v0),(1,(iv x1)),(2,(iv x2)),(6,(iv ah))]∧Mem W av w (aw::H)∧Ow R0 2 av aw v0 au) ?_ ?_
   ·refine Ak ?_
    refine AK (λax a w=>∃ay:LI,∃az:Int,(ay,az)=ax∧∃(aA:GH) (aB:Itm),GLe ai aA∧Fr a 49 [(0,v0),(1,(iv x1)),(2,(iv x2)),(6,(iv ah)),(7,(iv az))]∧Mem W aA w (aB::H)∧Ow R0 2 aA aB v0 ay) ar ⟨_,_,Z,_,aj,gr,f.k Z,m,ao⟩ ?_
    clear ar f m
    rintro ax aC aD aE a w ⟨ay,az,rfl,aA,aB,aF,f,m,aG⟩
    refine Ah (Ah ?_)
    refine A4 15 Az (by kernel_rfl) m ?_
    refine Ae 0 15 Z f Z λa f=>Ae 1 15 Z f Z λa f=>q_p 2 15 Z f (λ_=>AB (f.e Z) (f.e Z) Cs) λa f=>Ae 3 15 Z f Z λa f=> ?_
    have⟨aH,aI,aD⟩:=bind_some aD
    refine BR (fuel':=0) (listed':= #[true,true,true,true,true,true,true,true,true,true,true,true,true,true,true]) (λa=>Fr a 49 [(0,v0),(1,(iv x1)),(2,(iv x2)),(6,(iv ah)),(7,(iv az)),(16,(iv az)),(17,(iv x1)),(18,(.bool (decide (x1<az)))),(19,(.bool (decide (x1<az)))),(30,(.bool aH))]) ?_ ?_
    ·intro a f
     refine AN λaJ w aK m=> ?_
     have aG:=od1 aK aG
     refine Ab ?_
     rcases Af aD with⟨aL,aD⟩|⟨aL,aD⟩
     ·refine Al f Z aL ?_
      refine An ?_
      refine Ah (Ak ?_)
      refine Bj Az m ?_
      refine p_p 2 Z f (λ_=>AU (f.e Z)) λa f=>p_p 3 Z f (λ_=>AU (f.e Z)) λa f=>p_p 4 Z f (λ_=>AB (f.e Z) (f.e Z) AF) λa f=>Bi 28015 12 (by kernel_rfl) Z ?_
      refine Ae 0 28015 Z f Z λa f=>Ae 1 28015 Z f Z λa f=>Ae 5 28015 Z f Z λa f=>Ae 6 28015 Z f Z λa f=>q_p 7 28015 Z f (λ_=>AB (f.e Z) (f.e Z) AF) λa f=> ?_
      have⟨aM,aN,aD⟩:=bind_some aD
      refine AW 8 28015 0 m aG T28 aN Z f Z Z λaO a aP f=>Ba 9 28015 0 aG Pl2 aP aN Z f Z λaQ a aR f=> ?_
      subst aR
      refine Ae 10 28015 Z f Z λa f=>Ae 11 28015 Z f Z λa f=> ?_
      have⟨aS,aT,aD⟩:=bind_some aD
      refine AW 12 28015 0 m aG T28 aT Z f Z Z λaU a aV f=>Ba 13 28015 0 aG Pl2 aV aT Z f Z λaW a aX f=> ?_
      subst aX
      have⟨aY,aZ,aD⟩:=bind_some aD
      refine AW 14 28015 0 m aG T28 aZ Z f Z Z λa0 a a1 f=>AN λa2 w a3 m=> ?_
      have aG:=od1 a3 aG
      refine AM 0 m aG Z sizeOf2 f Z Z a1 aZ Z Z Z λa4 w m a5=> ?_
      have⟨a6,a7,aD⟩:=bind_some aD
      refine Bo 0 m a5 Z T28 f Z Z Z a7 λa8 a a9 f=>AM 0 m a5 Z sizeOf2 f Z Z a9 a7 Z Z Z λba w m bb=>Ab (Ao ?_)
      refine Aa f Z λa f=>Ai f Z Z AF λa f=>Ac f Z λa f=>Ab ?_
      obtain rfl:=sj aD
      exact⟨_,Z,_,_,Z,_,ba,(gt aF (gt aK a3)),f.k Z,m,bb⟩
     ·refine Aj f Z aL ?_
      refine AG Z ?_
      obtain rfl:=sj aD
      obtain rfl:=aE _ rfl
      exact⟨_,Z,_,aB,(gt aF aK),f.k Z,m,aG⟩
    ·intro bc
     rcases Af aI with⟨bd,aI⟩|⟨bd,aI⟩
     ·refine Ae (hw:=wo f bd) 4 15 Z f Z λa f=> ?_
      refine Ae (hw:=wo f bd) 5 15 Z f Z λa f=> ?_
      have⟨be,bf,aI⟩:=bind_some aI
      refine AW (hw:=wo f bd) 6 15 0 m aG T28 bf Z f Z Z λbg a bh f=>Ba (hw:=wo f bd) 7 15 0 aG Pl2 bh bf Z f Z λbi a bj f=> ?_
      subst bj
      refine Ae (hw:=wo f bd) 8 15 Z f Z λa f=>Ae (hw:=wo f bd) 9 15 Z f Z λa f=>q_p (hw:=wo f bd) 10 15 Z f (λ_=>AB (f.e Z) (f.e Z) AF) λa f=> ?_
      have⟨bk,bl,aI⟩:=bind_some aI
      refine AW (hw:=wo f bd) 11 15 0 m aG T28 bl Z f Z Z λbm a bn f=>Ba (hw:=wo f bd) 12 15 0 aG Pl2 bn bl Z f Z λbo a bp f=> ?_
      subst bp
      have⟨bq,br,aI⟩:=bind_some aI
      refine Bu (i:=13) 15 Z (by kernel_rfl) Z f (AC f Z Z Z bd) Z Z call137 (λ_ _ w bs m=>Wk.a m br) λa f=>q_p 14 15 Z f (λ_=>AS (f.e Z) bd (f.e Z)) λa f=> ?_
      obtain rfl:=sj aI
      exact bc _ (f.k Z)
     ·refine Am 4 15 Z f bd λa f=> ?_
      refine Am 5 15 Z f bd λa f=>Am 6 15 Z f bd λa f=>Am 7 15 Z f bd λa f=>Am 8 15 Z f bd λa f=>Am 9 15 Z f bd λa f=>Am 10 15 Z f bd λa f=>Am 11 15 Z f bd λa f=>Am 12 15 Z f bd λa f=>Am 13 15 Z f bd λa f=>q_p 14 15 Z f (λ_=>AR (f.e Z) bd (f.e Z)) λa f=> ?_
      obtain rfl:=sj aI
      exact bc _ (f.k Z)
   ·rintro a w ⟨au,rfl,av,aw,bt,f,m,bu⟩
    refine Ao ?_
    refine Aa f Z λa f=>Ai f Z Z As λa f=>Ac f Z λa f=>Ab ?_
    obtain rfl:=sj al
    exact⟨_,Z,_,_,Z,_,aw,(gt an bt),f.k Z,m,bu⟩
  ·refine Aj f Z ap ?_
   refine AG Z ?_
   obtain rfl:=sj al
   obtain rfl:=am _ rfl
   exact⟨_,Z,_,aj,an,f.weak trivial,m,ao⟩
 ·rintro a w ⟨ac,rfl,ad,ae,bv,f,m,bw⟩
  obtain rfl:=sj hd
  exact⟨[],trivial,f.d,_,[ae],bv,m,_,Z,bw⟩
theorem Wk.v0 {v0:Value}{it0:Itm}{x0:LI}{x1 x2 x3:Int}(m:Mem W G w (it0::H))(o0:Ow R0 2 G it0 v0 x0){y:(LI)}(hd:D.v0 x0 x1 x2 x3=some y):
  Calls prog 152 #[v0,(iv x1),(iv x2),(iv x3)] w (Res W G H (λG' Ho _=>∃i0:Itm,Ho=[i0]∧Ow R0 2 G' i0 v0 y)):=by
 refine Au (args:=[v0,(iv x1),(iv x2),(iv x3)]) (N:=76) [] func152 Z Z (lb Z) Z λa f=> ?_
 unfold D.v0 at hd
 refine Ag ?_
 refine Aa f Z λa f=>Ac f Z λa f=>Ab ?_
 have⟨aa,ab,hd⟩:=bind_some hd
 refine AJ (λa w=>∃q_182':LI,aa= .inl q_182'∧∃ac:LI,ac=q_182'∧∃(ad:GH) (ae:Itm),GLe G ad∧Fr a 76 []∧Mem W ad w (ae::H)∧Ow R0 2 ad ae v0 ac) ?_ ?_
 ·refine Ak ?_
  refine AK (λaf a w=>∃ag:LI,∃ah:Int,(ag,ah)=af∧∃(ai:GH) (aj:Itm),GLe G ai∧Fr a 76 [(0,v0),(2,(iv x2)),(3,(iv x3)),(8,(iv ah))]∧Mem W ai w (aj::H)∧Ow R0 2 ai aj v0 ag) ab ⟨_,_,Z,_,it0,gr,f.k Z,m,o0⟩ ?_
  clear ab f m
  rintro af ak al am a w ⟨ag,ah,rfl,ai,aj,an,f,m,ao⟩
  refine Ak (Ag ?_)
  refine Aa f Z λa f=>Ai f Z Z Ct λa f=>Ai f Z Z As λa f=>Ac f Z λa f=>Ab (Ah (Ag ?_))
  refine Aa f Z λa f=>Aa f Z λa f=>Ai f Z Z BH λa f=>Ab ?_
  rcases Af al with⟨ap,al⟩|⟨ap,al⟩
  ·refine Al f Z ap ?_
   refine AG Z ?_
   obtain rfl:=sj al
   obtain rfl:=am _ rfl
   exact⟨_,Z,_,Z,_,aj,an,f.weak trivial,m,ao⟩
  ·refine Aj f Z ap ?_
   refine An ?_
   refine Ah (Ah ?_)
   refine A4 20 Az (by kernel_rfl) m ?_
   refine Ae 0 20 Z f Z λa f=>q_p 1 20 Z f (λ_=>AB (f.e Z) (f.e Z) As) λa f=>Ae 2 20 Z f Z λa f=>q_p 3 20 Z f (λ_=>AB (f.e Z) (f.e Z) AV) λa f=>Ae 4 20 Z f Z λa f=> ?_
   have⟨aq,ar,al⟩:=bind_some al
   refine BR (fuel':=0) (listed':= #[true,true,true,true,true,true,true,true,true,true,true,true,true,true,true,true,true,true,true,true]) (λa=>Fr a 76 [(0,v0),(2,(iv x2)),(3,(iv x3)),(8,(iv ah)),(9,(iv (i64.wrap ((i64.wrap (2*ah))+1)))),(16,(.bool (decide (x2≤(i64.wrap ((i64.wrap (2*ah))+1)))))),(17,(iv (i64.wrap ((i64.wrap (2*ah))+1)))),(18,(iv (i64.wrap ((i64.wrap ((i64.wrap (2*ah))+1))+1)))),(19,(iv x2)),(20,(.bool (decide ((i64.wrap ((i64.wrap ((i64.wrap (2*ah))+1))+1))<x2)))),(21,(.bool (decide ((i64.wrap ((i64.wrap ((i64.wrap (2*ah))+1))+1))<x2)))),(36,(.bool aq))]) ?_ ?_
   ·intro a f
    refine AN λau w av m=> ?_
    have ao:=od1 av ao
    refine Ab ?_
    have⟨aw,ax,al⟩:=bind_some al
    refine AJ (λa w=>∃ay:Int,ay=aw∧∃(az:GH),GLe au az∧Fr a 76 [(0,v0),(2,(iv x2)),(3,(iv x3)),(8,(iv ah)),(9,(iv ay))]∧Mem W az w (aj::H)) ?_ ?_
    ·rcases Af ax with⟨aA,ax⟩|⟨aA,ax⟩
     ·refine Al f Z aA ?_
      refine Ao ?_
      refine Aa f Z λa f=>Ai f Z Z As λa f=>Ac f Z λa f=>Ab ?_
      obtain rfl:=sj ax
      exact⟨_,Z,_,gr,f.k Z,m⟩
     ·refine Aj f Z aA ?_
      refine An ?_
      obtain rfl:=sj ax
      exact⟨_,Z,_,gr,f.k Z,m⟩
    ·rintro a w ⟨ay,rfl,az,aB,f,m⟩
     have ao:=od1 aB ao
     refine Ah (Ah ?_)
     refine A4 14 Az (by kernel_rfl) m ?_
     refine Ae 0 14 Z f Z λa f=>Ae 1 14 Z f Z λa f=>Ae 2 14 Z f Z λa f=>q_p 3 14 Z f (λ_=>AB (f.e Z) (f.e Z) As) λa f=> ?_
     have⟨aC,aD,al⟩:=bind_some al
     refine AW 4 14 0 m ao T28 aD Z f Z Z λaE a aF f=>Ba 5 14 0 ao Pl2 aF aD Z f Z λaG a aH f=> ?_
     subst aH
     refine Ae 6 14 Z f Z λa f=>Ae 7 14 Z f Z λa f=>Ae 8 14 Z f Z λa f=>q_p 9 14 Z f (λ_=>AB (f.e Z) (f.e Z) As) λa f=> ?_
     have⟨aI,aJ,al⟩:=bind_some al
     refine AW 10 14 0 m ao T28 aJ Z f Z Z λaK a aL f=>Ba 11 14 0 ao Pl2 aL aJ Z f Z λaM a aN f=> ?_
     subst aN
     have⟨aO,aP,al⟩:=bind_some al
     refine Bu (i:=12) 14 Z (by kernel_rfl) Z f Z Z Z call137 (λ_ _ w aQ m=>Wk.a m aP) λa f=>q_p 13 14 Z f (λ_=>Bg (f.e Z)) λa f=>AN λaR w aS m=> ?_
     have ao:=od1 aS ao
     refine Ab ?_
     rcases Af al with⟨aT,al⟩|⟨aT,al⟩
     ·refine Al f Z aT ?_
      refine Ar ?_
      obtain rfl:=sj al
      obtain rfl:=am _ rfl
      obtain rfl:=sj hd
      exact⟨[],trivial,f.d,_,[aj],(gt an (gt av (gt aB aS))),m,_,Z,ao⟩
     ·refine Aj f Z aT ?_
      refine An ?_
      refine Ah ?_
      refine Bj Az m ?_
      refine p_p 4 Z f (λ_=>AU (f.e Z)) λa f=>p_p 5 Z f (λ_=>AU (f.e Z)) λa f=>p_p 6 Z f (λ_=>AU (f.e Z)) λa f=>p_p 7 Z f (λ_=>AB (f.e Z) (f.e Z) As) λa f=>Bi 240021 17 (by kernel_rfl) Z ?_
      refine Ae 0 240021 Z f Z λa f=>Ae 1 240021 Z f Z λa f=>Ae 2 240021 Z f Z λa f=>q_p 3 240021 Z f (λ_=>AB (f.e Z) (f.e Z) As) λa f=>Ae 8 240021 Z f Z λa f=>Ae 9 240021 Z f Z λa f=>Ae 10 240021 Z f Z λa f=>q_p 11 240021 Z f (λ_=>AB (f.e Z) (f.e Z) As) λa f=> ?_
      have⟨aU,aV,al⟩:=bind_some al
      refine AW 12 240021 0 m ao T28 aV Z f Z Z λaW a aX f=>Ba 13 240021 0 ao Pl2 aX aV Z f Z λaY a aZ f=> ?_
      subst aZ
      refine Ae 14 240021 Z f Z λa f=>Ae 15 240021 Z f Z λa f=>Ae 16 240021 Z f Z λa f=>q_p 17 240021 Z f (λ_=>AB (f.e Z) (f.e Z) As) λa f=> ?_
      have⟨a0,a1,al⟩:=bind_some al
      refine AW 18 240021 0 m ao T28 a1 Z f Z Z λa2 a a3 f=>Ba 19 240021 0 ao Pl2 a3 a1 Z f Z λa4 a a5 f=> ?_
      subst a5
      have⟨a6,a7,al⟩:=bind_some al
      refine AW 20 240021 0 m ao T28 a7 Z f Z Z λa8 a a9 f=>AN λba w bb m=> ?_
      have ao:=od1 bb ao
      refine AM 0 m ao Z sizeOf2 f Z Z a9 a7 Z Z Z λbc w m bd=> ?_
      have⟨be,bf,al⟩:=bind_some al
      refine Bo 0 m bd Z T28 f Z Z Z bf λbg a bh f=>AM 0 m bd Z sizeOf2 f Z Z bh bf Z Z Z λbi w m bj=>Ab (Ao ?_)
      refine Aa f Z λa f=>Ac f Z λa f=>Ab ?_
      obtain rfl:=sj al
      exact⟨_,Z,_,_,Z,_,bi,(gt an (gt av (gt aB (gt aS bb)))),f.k Z,m,bj⟩
   ·intro bk
    rcases Af ar with⟨bl,ar⟩|⟨bl,ar⟩
    ·refine Ae (hw:=wo f bl) 5 20 Z f Z λa f=> ?_
     refine Ae (hw:=wo f bl) 6 20 Z f Z λa f=>Ae (hw:=wo f bl) 7 20 Z f Z λa f=>q_p (hw:=wo f bl) 8 20 Z f (λ_=>AB (f.e Z) (f.e Z) As) λa f=> ?_
     have⟨bm,bn,ar⟩:=bind_some ar
     refine AW (hw:=wo f bl) 9 20 0 m ao T28 bn Z f Z Z λbo a bp f=>Ba (hw:=wo f bl) 10 20 0 ao Pl2 bp bn Z f Z λbq a br f=> ?_
     subst br
     refine Ae (hw:=wo f bl) 11 20 Z f Z λa f=>Ae (hw:=wo f bl) 12 20 Z f Z λa f=>Ae (hw:=wo f bl) 13 20 Z f Z λa f=>q_p (hw:=wo f bl) 14 20 Z f (λ_=>AB (f.e Z) (f.e Z) As) λa f=>q_p (hw:=wo f bl) 15 20 Z f (λ_=>AB (f.e Z) (f.e Z) As) λa f=> ?_
     have⟨bs,bt,ar⟩:=bind_some ar
     refine AW (hw:=wo f bl) 16 20 0 m ao T28 bt Z f Z Z λbu a bv f=>Ba (hw:=wo f bl) 17 20 0 ao Pl2 bv bt Z f Z λbw a bx f=> ?_
     subst bx
     have⟨bz,bA,ar⟩:=bind_some ar
     refine Bu (i:=18) 20 Z (by kernel_rfl) Z f (AC f Z Z Z bl) Z Z call137 (λ_ _ w bB m=>Wk.a m bA) λa f=>q_p 19 20 Z f (λ_=>AS (f.e Z) bl (f.e Z)) λa f=> ?_
     obtain rfl:=sj ar
     exact bk _ (f.k Z)
    ·refine Am 5 20 Z f bl λa f=> ?_
     refine Am 6 20 Z f bl λa f=>Am 7 20 Z f bl λa f=>Am 8 20 Z f bl λa f=>Am 9 20 Z f bl λa f=>Am 10 20 Z f bl λa f=>Am 11 20 Z f bl λa f=>Am 12 20 Z f bl λa f=>Am 13 20 Z f bl λa f=>Am 14 20 Z f bl λa f=>Am 15 20 Z f bl λa f=>Am 16 20 Z f bl λa f=>Am 17 20 Z f bl λa f=>Am 18 20 Z f bl λa f=>q_p 19 20 Z f (λ_=>AR (f.e Z) bl (f.e Z)) λa f=> ?_
     obtain rfl:=sj ar
     exact bk _ (f.k Z)
 ·rintro a w ⟨_,rfl,ac,rfl,ad,ae,bC,f,m,bD⟩
  obtain rfl:=sj hd
  exact⟨[],trivial,f.d,_,[ae],bC,m,_,Z,bD⟩
theorem Wk.n1 {v0:Value}{it0:Itm}{x0:LI}{x1 x2:Int}(m:Mem W G w (it0::H))(o0:Ow R0 2 G it0 v0 x0){y:(LI)}(hd:D.n1 x0 x1 x2=some y):
  Calls prog 132 #[v0,(iv x1),(iv x2)] w (Res W G H (λG' Ho _=>∃i0:Itm,Ho=[i0]∧Ow R0 2 G' i0 v0 y)):=by
 refine Au (args:=[v0,(iv x1),(iv x2)]) (N:=56) [] func132 Z Z (lb Z) Z λa f=> ?_
 unfold D.n1 at hd
 refine Ag ?_
 refine Aa f Z λa f=>Ac f Z λa f=>Ay ?_
 refine Ac f Z λa f=>Ay ?_
 refine Aa f Z λa f=>Aa f Z λa f=>Ai f Z Z AF λa f=>Ac f Z λa f=>Ab (Ah (Ag ?_))
 refine Aa f Z λa f=>Ai f Z Z AF λa f=>Ai f Z Z (CK Z) λa f=>Ac f Z λa f=>Ab ?_
 have⟨aa,ab,hd⟩:=bind_some hd
 refine AJ (λa w=>∃ac:LI,ac=aa∧∃(ad:GH) (ae:Itm),GLe G ad∧Fr a 56 [(0,v0),(6,(iv x1)),(7,(iv 0)),(8,(iv (i64.wrap (x2-x1))))]∧Mem W ad w (ae::H)∧Ow R0 2 ad ae v0 ac) ?_ ?_
 ·refine Ak ?_
  refine AK (λaf a w=>∃ag:LI,∃ah:Int,(ag,ah)=af∧∃(ai:GH) (aj:Itm),GLe G ai∧Fr a 56 [(0,v0),(6,(iv x1)),(7,(iv 0)),(8,(iv (i64.wrap (x2-x1)))),(9,(iv ah))]∧Mem W ai w (aj::H)∧Ow R0 2 ai aj v0 ag) ab ⟨_,_,Z,_,it0,gr,f.k Z,m,o0⟩ ?_
  clear ab f m
  rintro af ak al am a w ⟨ag,ah,rfl,ai,aj,an,f,m,ao⟩
  refine Ah (Ag ?_)
  refine Aa f Z λa f=>Ai f Z Z BH λa f=>Ab ?_
  rcases Af al with⟨ap,al⟩|⟨ap,al⟩
  ·refine Al f Z ap ?_
   refine An ?_
   refine Ah (Ak (Ao ?_))
   refine Aa f Z λa f=>Aa f Z λa f=>Aa f Z λa f=>Aa f Z λa f=> ?_
   have⟨aq,ar,al⟩:=bind_some al
   refine AT f Z call152 (Wk.v0 m ao ar) λau av aw w ax m ay a f=> ?_
   obtain⟨az,rfl,aA⟩:=ay
   refine Ab (Ao ?_)
   refine Aa f Z λa f=>Ai f Z Z AF λa f=>Ac f Z λa f=>Ab ?_
   obtain rfl:=sj al
   exact⟨_,Z,_,_,Z,_,az,(gt an ax),f.k Z,m,aA⟩
  ·refine Aj f Z ap ?_
   refine AG Z ?_
   obtain rfl:=sj al
   obtain rfl:=am _ rfl
   exact⟨_,Z,_,aj,an,f.k Z,m,ao⟩
 ·rintro a w ⟨ac,rfl,ad,ae,aB,f,m,aC⟩
  refine Ag ?_
  refine Aa f Z λa f=>Ai f Z Z AF λa f=>Ac f Z λa f=>Ab ?_
  have⟨aD,aE,hd⟩:=bind_some hd
  refine AJ (λa w=>∃aF:LI,aF=aD∧∃(aG:GH) (aH:Itm),GLe ad aG∧Fr a 56 []∧Mem W aG w (aH::H)∧Ow R0 2 aG aH v0 aF) ?_ ?_
  ·refine Ak ?_
   refine AK (λaI a w=>∃aJ:LI,∃aK:Int,(aJ,aK)=aI∧∃(aL:GH) (aM:Itm),GLe ad aL∧Fr a 56 [(0,v0),(6,(iv x1)),(7,(iv 0)),(10,(iv aK))]∧Mem W aL w (aM::H)∧Ow R0 2 aL aM v0 aJ) aE ⟨_,_,Z,_,ae,gr,f.k Z,m,aC⟩ ?_
   clear aE f m
   rintro aI aN aO aP a w ⟨aJ,aK,rfl,aL,aM,aQ,f,m,aR⟩
   refine Ah (Ag ?_)
   refine Aa f Z λa f=>Ai f Z Z BH λa f=>Ab ?_
   rcases Af aO with⟨aS,aO⟩|⟨aS,aO⟩
   ·refine Al f Z aS ?_
    refine An ?_
    refine Ah (Ak (Ah ?_))
    refine Bj Az m ?_
    refine p_p 2 Z f (λ_=>AU (f.e Z)) λa f=>p_p 3 Z f (λ_=>AU (f.e Z)) λa f=>p_p 4 Z f (λ_=>AU (f.e Z)) λa f=>p_p 5 Z f (λ_=>AB (f.e Z) (f.e Z) As) λa f=>Bi 60017 13 (by kernel_rfl) Z ?_
    refine Ae 0 60017 Z f Z λa f=>Ae 1 60017 Z f Z λa f=>Ae 6 60017 Z f Z λa f=>Ae 7 60017 Z f Z λa f=>Ae 8 60017 Z f Z λa f=>q_p 9 60017 Z f (λ_=>AB (f.e Z) (f.e Z) As) λa f=> ?_
    have⟨aT,aU,aO⟩:=bind_some aO
    refine AW 10 60017 0 m aR T28 aU Z f Z Z λaV a aW f=>Ba 11 60017 0 aR Pl2 aW aU Z f Z λaX a aY f=> ?_
    subst aY
    refine Ae 12 60017 Z f Z λa f=>Ae 13 60017 Z f Z λa f=> ?_
    have⟨aZ,a0,aO⟩:=bind_some aO
    refine AW 14 60017 0 m aR T28 a0 Z f Z Z λa1 a a2 f=>Ba 15 60017 0 aR Pl2 a2 a0 Z f Z λa3 a a4 f=> ?_
    subst a4
    have⟨a5,a6,aO⟩:=bind_some aO
    refine AW 16 60017 0 m aR T28 a6 Z f Z Z λa7 a a8 f=>AN λa9 w ba m=> ?_
    have aR:=od1 ba aR
    refine AM 0 m aR Z sizeOf2 f Z Z a8 a6 Z Z Z λbb w m bc=> ?_
    have⟨bd,be,aO⟩:=bind_some aO
    refine Bo 0 m bc Z T28 f Z Z Z be λbf a bg f=>AM 0 m bc Z sizeOf2 f Z Z bg be Z Z Z λbh w m bi=>Ab (Ao ?_)
    refine Aa f Z λa f=>Aa f Z λa f=>Aa f Z λa f=>Aa f Z λa f=> ?_
    have⟨bj,bk,aO⟩:=bind_some aO
    refine AT f Z call152 (Wk.v0 m bi bk) λbl bm bn w bo m bp a f=> ?_
    obtain⟨bq,rfl,br⟩:=bp
    refine Ab (Ao ?_)
    refine Aa f Z λa f=>Ai f Z Z AF λa f=>Ac f Z λa f=>Ab ?_
    obtain rfl:=sj aO
    exact⟨_,Z,_,_,Z,_,bq,(gt aQ (gt ba bo)),f.k Z,m,br⟩
   ·refine Aj f Z aS ?_
    refine AG Z ?_
    obtain rfl:=sj aO
    obtain rfl:=aP _ rfl
    exact⟨_,Z,_,aM,aQ,f.weak trivial,m,aR⟩
  ·rintro a w ⟨aF,rfl,aG,aH,bs,f,m,bt⟩
   obtain rfl:=sj hd
   exact⟨[],trivial,f.d,_,[aH],(gt aB bs),m,_,Z,bt⟩
theorem Wk.p {x0:Int}(m:Mem W G w (H)){y:Int}(hd:D.p x0=some y):
  Calls prog 153 #[(iv x0)] w (Res W G H (λ_ Ho v=>Ho=[]∧v=(.int .u64 y))):=by
 refine Au (args:=[(iv x0)]) (N:=7) [.tmp 2] func153 Z Z (lb Z) Z λa f=> ?_
 unfold D.p at hd
 refine Ag ?_
 refine Ac f Z λa f=>Ay ?_
 refine Aa f Z λa f=>l_o f (Cw (f.e Z) ⟨_,underlying3⟩ underlying56) λa f=> ?_
 have⟨aa,ab,hd⟩:=bind_some hd
 refine AT f Z call124 (Wk.j m ab) λac ad ae w af m ag a f=> ?_
 obtain⟨rfl,rfl⟩:=ag
 obtain⟨ah,hd⟩:=Dv hd
 refine l_o f (r_shl (f.e Z) (f.e Z) ah) λa f=>Ac f Z λa f=>Ab ?_
 refine Ar ?_
 obtain rfl:=sj hd
 exact⟨[(.int .u64 (ishl .u64 1 aa))],f.g Z,f.d,_,[],af,m,Z,Z⟩
theorem Wk.E {b0:Nat}{aa:Int}(m:Mem W G w (ib b0 163 [(.int .u64 aa)]::H)){y:Int×Int}(hd:D.E aa=some y):
  Calls prog 154 #[(pb b0)] w (Res W G H (λ_ Ho v=>Ho=[ib b0 163 [(.int .u64 y.2)]]∧v=(.int .u64 y.1))):=by
 refine Au (args:=[(pb b0)]) (N:=33) [.tmp 2] func154 Z Z (lb Z) Z λa f=> ?_
 unfold D.E at hd
 refine Ag ?_
 refine Ac f Z λa f=>Ab (Ah ?_)
 refine A4 9 Az (by kernel_rfl) m ?_
 refine Ae 0 9 Z f Z λa f=>q_p 1 9 Z f (λ_=>Be (f.e Z)) λa f=>BX 2 9 0 Pl163 Z Z Z f Z λa f=>Ae 3 9 Z f Z λa f=>q_p 4 9 Z f (λ_=>Be (f.e Z)) λa f=>BX 5 9 0 Pl163 Z Z Z f Z λa f=>q_p 6 9 Z f (λ_=>r_shl (f.e Z) (f.e Z) (by decide)) λa f=>q_p 7 9 Z f (λ_=>AB (f.e Z) (f.e Z) b_xor) λa f=>q_p 8 9 Z f (λ_=>Be (f.e Z)) λa f=>AN λab w ac m=>A3 0 0 (ds:=[(.int .u64 (A7 .u64 aa (ishl .u64 aa 13)))]) m sizeOf163 f Z Z Z (Ap Z AH) Z (lb Z) Z λw m=>Ab (Ah ?_)
 refine A4 9 Az (by kernel_rfl) m ?_
 refine Ae 0 9 Z f Z λa f=>q_p 1 9 Z f (λ_=>Be (f.e Z)) λa f=>BX 2 9 0 Pl163 Z Z Z f Z λa f=>Ae 3 9 Z f Z λa f=>q_p 4 9 Z f (λ_=>Be (f.e Z)) λa f=>BX 5 9 0 Pl163 Z Z Z f Z λa f=>q_p 6 9 Z f (λ_=>r_shr (f.e Z) (f.e Z) (by decide)) λa f=>q_p 7 9 Z f (λ_=>AB (f.e Z) (f.e Z) b_xor) λa f=>q_p 8 9 Z f (λ_=>Be (f.e Z)) λa f=>AN λad w ae m=>A3 0 0 (ds:=[(.int .u64 (A7 .u64 (A7 .u64 aa (ishl .u64 aa 13)) (Bv .u64 (A7 .u64 aa (ishl .u64 aa 13)) 7)))]) m sizeOf163 f Z Z Z (Ap Z AH) Z (lb Z) Z λw m=>Ab (Ah ?_)
 refine A4 9 Az (by kernel_rfl) m ?_
 refine Ae 0 9 Z f Z λa f=>q_p 1 9 Z f (λ_=>Be (f.e Z)) λa f=>BX 2 9 0 Pl163 Z Z Z f Z λa f=>Ae 3 9 Z f Z λa f=>q_p 4 9 Z f (λ_=>Be (f.e Z)) λa f=>BX 5 9 0 Pl163 Z Z Z f Z λa f=>q_p 6 9 Z f (λ_=>r_shl (f.e Z) (f.e Z) (by decide)) λa f=>q_p 7 9 Z f (λ_=>AB (f.e Z) (f.e Z) b_xor) λa f=>q_p 8 9 Z f (λ_=>Be (f.e Z)) λa f=>AN λaf w ag m=>A3 0 0 (ds:=[(.int .u64 (A7 .u64 (A7 .u64 (A7 .u64 aa (ishl .u64 aa 13)) (Bv .u64 (A7 .u64 aa (ishl .u64 aa 13)) 7)) (ishl .u64 (A7 .u64 (A7 .u64 aa (ishl .u64 aa 13)) (Bv .u64 (A7 .u64 aa (ishl .u64 aa 13)) 7)) 17)))]) m sizeOf163 f Z Z Z (Ap Z AH) Z (lb Z) Z λw m=>Ay ?_
 refine Aa f Z λa f=>l_o f (Be (f.e Z)) λa f=>A5 0 0 m Pl163 f Z Z Z Z λa f=>Ac f Z λa f=>Ab ?_
 refine Ar ?_
 obtain rfl:=sj hd
 exact⟨[(.int .u64 (A7 .u64 (A7 .u64 (A7 .u64 aa (ishl .u64 aa 13)) (Bv .u64 (A7 .u64 aa (ishl .u64 aa 13)) 7)) (ishl .u64 (A7 .u64 (A7 .u64 aa (ishl .u64 aa 13)) (Bv .u64 (A7 .u64 aa (ishl .u64 aa 13)) 7)) 17)))],f.g Z,f.d,_,[ib b0 163 [(.int .u64 (A7 .u64 (A7 .u64 (A7 .u64 aa (ishl .u64 aa 13)) (Bv .u64 (A7 .u64 aa (ishl .u64 aa 13)) 7)) (ishl .u64 (A7 .u64 (A7 .u64 aa (ishl .u64 aa 13)) (Bv .u64 (A7 .u64 aa (ishl .u64 aa 13)) 7)) 17)))]],(gt ac (gt ae ag)),m,Z,Z⟩
theorem Wk.S0 {v0:Value}{it0:Itm}{x0:LI}{x1 x2:Int}(m:Mem W G w (it0::H))(o0:Ow R0 2 G it0 v0 x0){y:(LI)}(hd:D.S0 x0 x1 x2=some y):
  Calls prog 133 #[v0,(iv x1),(iv x2)] w (Res W G H (λG' Ho _=>∃i0:Itm,Ho=[i0]∧Ow R0 2 G' i0 v0 y)):=by
 refine Au (args:=[v0,(iv x1),(iv x2)]) (N:=65) [] func133 Z Z (lb Z) Z λa f=> ?_
 unfold D.S0 at hd
 refine Ag ?_
 refine Aa f Z λa f=>Aa f Z λa f=>Ai f Z Z AF λa f=>Ac f Z λa f=>Ay ?_
 refine Aa f Z λa f=>Ai f Z Z BH λa f=>Ab ?_
 rcases Af hd with⟨aa,hd⟩|⟨aa,hd⟩
 ·refine Al f Z aa ?_
  refine Ag ?_
  refine Aa f Z λa f=>l_o f (Cw (f.e Z) ⟨_,underlying3⟩ underlying163) λa f=>Bx (cs:=[(.int .u64 0)]) zeroValue163 m f Z Z λab w a m f=>A3 0 0 (ds:=[(.int .u64 (IntKind.u64.wrap (i64.wrap (x2-x1))))]) m sizeOf163 f Z Z Z (Ap Z AH) Z (lb Z) Z λw m=>Ay ?_
  refine Aa f Z λa f=> ?_
  have⟨ac,ad,hd⟩:=bind_some hd
  refine Bk f Z call153 (Wk.p m ad) λae w af m a f=> ?_
  have o0:=od1 af o0
  refine Ac f Z λa f=>Ay ?_
  refine Aa f Z λa f=>Aa f Z λa f=>Ai f Z Z (CK Z) λa f=>Ai f Z Z Ct λa f=>Ai f Z Z As λa f=>Ai f Z Z AF λa f=>Ac f Z λa f=>Ab ?_
  have⟨ag,ah,hd⟩:=bind_some hd
  refine AJ (λa w=>∃ai:LI,ai=ag∧∃(aj:GH) (ak:Itm),GLe ae aj∧Fr a 65 []∧Mem W aj w (ak::H)∧Ow R0 2 aj ak v0 ai) ?_ ?_
  ·refine Ak ?_
   refine AK (λal a w=>∃am:LI,∃an:Int,∃ao:Int,(am,an,ao)=al∧∃(ap:GH) (aq:Itm),GLe ae ap∧Fr a 65 [(0,v0),(1,(iv x1)),(6,(iv (i64.wrap (x2-x1)))),(7,(pb ab)),(8,(.int .u64 ac)),(9,(iv an))]∧Mem W ap w (ib ab 163 [(.int .u64 ao)]::aq::H)∧Ow R0 2 ap aq v0 am) ah ⟨_,_,_,Z,_,it0,gr,f.k Z,m,o0⟩ ?_
   clear ah f m
   rintro al ar au av a w ⟨am,an,ao,rfl,ap,aq,aw,f,m,ax⟩
   refine Ah (Ag ?_)
   refine Aa f Z λa f=>Aa f Z λa f=>Aa f Z λa f=>Ai f Z Z (CK Z) λa f=>Ai f Z Z Ct λa f=>Ai f Z Z As λa f=>Ai f Z Z As λa f=>Ai f Z Z B5 λa f=>Ab ?_
   rcases Af au with⟨ay,au⟩|⟨ay,au⟩
   ·refine Al f Z ay ?_
    refine An ?_
    refine Ah (Ak (Ag ?_))
    have⟨az,aA,au⟩:=bind_some au
    refine AT f Z call154 (Wk.E m aA) λaB aC aD w aE m aF a f=> ?_
    obtain⟨rfl,rfl⟩:=aF
    have ax:=od1 aE ax
    refine Aa f Z λa f=>Ai f Z Z AF λa f=>Ai f Z Z D8 λa f=>l_o f (Cw (f.e Z) ⟨_,underlying56⟩ underlying3) λa f=>Ac f Z λa f=>Ab (Ah (Ag ?_))
    refine Aa f Z λa f=>Aa f Z λa f=>Ai f Z Z BH λa f=>Ab ?_
    have⟨aG,aH,au⟩:=bind_some au
    refine AJ (λa w=>∃aI:Int,aI=aG∧∃(aJ:GH),GLe aC aJ∧Fr a 65 [(0,v0),(1,(iv x1)),(6,(iv (i64.wrap (x2-x1)))),(7,(pb ab)),(8,(.int .u64 ac)),(9,(iv an)),(10,(iv aI))]∧Mem W aJ w (ib ab 163 [(.int .u64 az.2)]::aq::H)) ?_ ?_
    ·rcases Af aH with⟨aK,aH⟩|⟨aK,aH⟩
     ·refine Al f Z aK ?_
      refine Ao ?_
      refine Aa f Z λa f=>Aa f Z λa f=>Ai f Z Z AF λa f=>Ac f Z λa f=>Ab ?_
      obtain rfl:=sj aH
      exact⟨_,Z,_,gr,f.k Z,m⟩
     ·refine Aj f Z aK ?_
      refine An ?_
      obtain rfl:=sj aH
      exact⟨_,Z,_,gr,f.k Z,m⟩
    ·rintro a w ⟨aI,rfl,aJ,aL,f,m⟩
     have ax:=od1 aL ax
     refine Bj Az m ?_
     refine p_p 2 Z f (λ_=>AU (f.e Z)) λa f=>p_p 3 Z f (λ_=>AU (f.e Z)) λa f=>p_p 4 Z f (λ_=>AU (f.e Z)) λa f=>p_p 5 Z f (λ_=>AB (f.e Z) (f.e Z) As) λa f=>Bi 60017 13 (by kernel_rfl) Z ?_
     refine Ae 0 60017 Z f Z λa f=>Ae 1 60017 Z f Z λa f=>Ae 6 60017 Z f Z λa f=>Ae 7 60017 Z f Z λa f=>Ae 8 60017 Z f Z λa f=>q_p 9 60017 Z f (λ_=>AB (f.e Z) (f.e Z) As) λa f=> ?_
     have⟨aM,aN,au⟩:=bind_some au
     refine AW 10 60017 1 m ax T28 aN Z f Z Z λaO a aP f=>Ba 11 60017 1 ax Pl2 aP aN Z f Z λaQ a aR f=> ?_
     subst aR
     refine Ae 12 60017 Z f Z λa f=>Ae 13 60017 Z f Z λa f=> ?_
     have⟨aS,aT,au⟩:=bind_some au
     refine AW 14 60017 1 m ax T28 aT Z f Z Z λaU a aV f=>Ba 15 60017 1 ax Pl2 aV aT Z f Z λaW a aX f=> ?_
     subst aX
     have⟨aY,aZ,au⟩:=bind_some au
     refine AW 16 60017 1 m ax T28 aZ Z f Z Z λa0 a a1 f=>AN λa2 w a3 m=> ?_
     have ax:=od1 a3 ax
     refine AM 1 m ax Z sizeOf2 f Z Z a1 aZ Z Z Z λa4 w m a5=> ?_
     have⟨a6,a7,au⟩:=bind_some au
     refine Bo 1 m a5 Z T28 f Z Z Z a7 λa8 a a9 f=>AM 1 m a5 Z sizeOf2 f Z Z a9 a7 Z Z Z λba w m bb=>Ab (Ao ?_)
     refine Aa f Z λa f=>Ai f Z Z As λa f=>Ac f Z λa f=>Ab ?_
     obtain rfl:=sj au
     exact⟨_,Z,_,_,_,Z,_,ba,(gt aw (gt aE (gt aL a3))),f.k Z,m,bb⟩
   ·refine Aj f Z ay ?_
    refine AG Z ?_
    have m:=m.fr 1
    have m:=m.eraseAt 1
    obtain rfl:=sj au
    obtain rfl:=av _ rfl
    exact⟨_,Z,_,aq,aw,f.weak trivial,m,ax⟩
  ·rintro a w ⟨ai,rfl,aj,ak,bc,f,m,bd⟩
   obtain rfl:=sj hd
   exact⟨[],trivial,f.d,_,[ak],(gt af bc),m,_,Z,bd⟩
 ·refine Aj f Z aa ?_
  refine An ?_
  obtain rfl:=sj hd
  exact⟨[],trivial,f.d,_,[it0],gr,m,_,Z,o0⟩
theorem Wk.x {v0:Value}{it0:Itm}{b3:Nat}{x0:LI}{x1 x2 aa:Int}(m:Mem W G w (it0::ib b3 3 [(iv aa)]::H))(o0:Ow R0 2 G it0 v0 x0){y:Int×Int×(LI)×Int}(hd:D.x x0 x1 x2 aa=some y):
  Calls prog 170 #[v0,(iv x1),(iv x2),(pb b3)] w (Res W G H (λG' Ho v=>∃i0:Itm,Ho=[i0,ib b3 3 [(iv y.2.2.2)]]∧v= .tuple #[(iv y.1),(iv y.2.1)]∧Ow R0 2 G' i0 v0 y.2.2.1)):=by
 refine Au (args:=[v0,(iv x1),(iv x2),(pb b3)]) (N:=28) [.tmp 8,.tmp 9] func170 Z Z (lb Z) Z λa f=> ?_
 unfold D.x at hd
 refine Ag ?_
 refine Ac f Z λa f=>Ac f Z λa f=>Ab (Ah (Ah ?_))
 refine A4 9 Az (by kernel_rfl) m ?_
 refine Ae 0 9 Z f Z λa f=>Ae 1 9 Z f Z λa f=> ?_
 have⟨ab,ac,hd⟩:=bind_some hd
 refine AW 2 9 0 m o0 T28 ac Z f Z Z λad a ae f=>Ba 3 9 0 o0 Pl2 ae ac Z f Z λaf a ag f=> ?_
 subst ag
 refine Ae 4 9 Z f Z λa f=>Ae 5 9 Z f Z λa f=> ?_
 have⟨ah,ai,hd⟩:=bind_some hd
 refine AW 6 9 0 m o0 T28 ai Z f Z Z λaj a ak f=>Ba 7 9 0 o0 Pl2 ak ai Z f Z λal a am f=> ?_
 subst am
 have⟨an,ao,hd⟩:=bind_some hd
 refine Bu (i:=8) 9 Z (by kernel_rfl) Z f Z Z Z call137 (λ_ _ w ap m=>Wk.a m ao) λa f=>AN λaq w ar m=> ?_
 have o0:=od1 ar o0
 refine Ab ?_
 rcases Af hd with⟨au,hd⟩|⟨au,hd⟩
 ·refine Al f Z au ?_
  refine Ag ?_
  refine Aa f Z λa f=>l_o f (Be (f.e Z)) λa f=>A5 1 0 m Pl3 f Z Z Z Z λa f=>Ai f Z Z As λa f=>l_o f (Be (f.e Z)) λa f=>A3 1 0 (ds:=[(iv (i64.wrap (aa+1)))]) m sizeOf3 f Z Z Z (Ap Z AH) Z (lb Z) Z λw m=>Ay ?_
  refine Aa f Z λa f=>Aa f Z λa f=>Ac f Z λa f=>Ac f Z λa f=>Ab ?_
  refine Ar ?_
  obtain rfl:=sj hd
  exact⟨[(iv x2),(iv x1)],⟨f.get _ _ Z,f.get _ _ Z,trivial⟩,f.d,_,[it0,ib b3 3 [(iv (i64.wrap (aa+1)))]],ar,m,_,Z,Z,o0⟩
 ·refine Aj f Z au ?_
  refine An ?_
  refine Ag ?_
  refine Aa f Z λa f=>Aa f Z λa f=>Ac f Z λa f=>Ac f Z λa f=>Ab ?_
  refine Ar ?_
  obtain rfl:=sj hd
  exact⟨[(iv x1),(iv x2)],⟨f.get _ _ Z,f.get _ _ Z,trivial⟩,f.d,_,[it0,ib b3 3 [(iv aa)]],ar,m,_,Z,Z,o0⟩
theorem Wk.X {v0:Value}{it0:Itm}{b4:Nat}{x0:LI}{x1 x2 x3 aa:Int}(m:Mem W G w (it0::ib b4 3 [(iv aa)]::H))(o0:Ow R0 2 G it0 v0 x0){y:Int×(LI)×Int}(hd:D.X x0 x1 x2 x3 aa=some y):
  Calls prog 156 #[v0,(iv x1),(iv x2),(iv x3),(pb b4)] w (Res W G H (λG' Ho v=>∃i0:Itm,Ho=[i0,ib b4 3 [(iv y.2.2)]]∧v=(iv y.1)∧Ow R0 2 G' i0 v0 y.2.1)):=by
 refine Au (args:=[v0,(iv x1),(iv x2),(iv x3),(pb b4)]) (N:=36) [.tmp 10] func156 Z Z (lb Z) Z λa f=> ?_
 unfold D.X at hd
 refine Ag ?_
 refine Ac f Z λa f=>Ay ?_
 refine Aa f Z λa f=>Aa f Z λa f=>Aa f Z λa f=>Aa f Z λa f=> ?_
 have⟨ab,ac,hd⟩:=bind_some hd
 refine AT f Z call170 (Wk.x m o0 ac) λad ae af w ag m ah a f=> ?_
 obtain⟨ai,rfl,rfl,aj⟩:=ah
 refine Aa f Z λa f=>l_o f (AI (f.e Z) Z) λa f=>l_o f (AI (f.e Z) Z) λa f=>Ac f Z λa f=>Ac f Z λa f=>Ay ?_
 refine Aa f Z λa f=>Aa f Z λa f=>Aa f Z λa f=>Aa f Z λa f=> ?_
 have⟨ak,al,hd⟩:=bind_some hd
 refine AT f Z call170 (Wk.x m aj al) λam an ao w ap m aq a f=> ?_
 obtain⟨ar,rfl,rfl,au⟩:=aq
 refine Aa f Z λa f=>l_o f (AI (f.e Z) Z) λa f=>l_o f (AI (f.e Z) Z) λa f=>Ac f Z λa f=>Ac f Z λa f=>Ay ?_
 refine Aa f Z λa f=>Aa f Z λa f=>Aa f Z λa f=>Aa f Z λa f=> ?_
 have⟨av,aw,hd⟩:=bind_some hd
 refine AT f Z call170 (Wk.x m au aw) λax ay az w aA m aB a f=> ?_
 obtain⟨aC,rfl,rfl,aD⟩:=aB
 refine Aa f Z λa f=>l_o f (AI (f.e Z) Z) λa f=>l_o f (AI (f.e Z) Z) λa f=>Ac f Z λa f=>Ac f Z λa f=>Ay ?_
 refine Aa f Z λa f=>Ac f Z λa f=>Ab ?_
 refine Ar ?_
 obtain rfl:=sj hd
 exact⟨[(iv av.2.1)],f.g Z,f.d,_,[aC,ib b4 3 [(iv av.2.2.2)]],(gt ag (gt ap aA)),m,_,Z,Z,aD⟩
theorem Wk.T {v0:Value}{it0:Itm}{b2:Nat}{x0:LI}{x1 aa:Int}(m:Mem W G w (it0::ib b2 3 [(iv aa)]::H))(o0:Ow R0 2 G it0 v0 x0){y:Int×(LI)×Int}(hd:D.T x0 x1 aa=some y):
  Calls prog 155 #[v0,(iv x1),(pb b2)] w (Res W G H (λG' Ho v=>∃i0:Itm,Ho=[i0,ib b2 3 [(iv y.2.2)]]∧v=(iv y.1)∧Ow R0 2 G' i0 v0 y.2.1)):=by
 refine Au (args:=[v0,(iv x1),(pb b2)]) (N:=15) [.tmp 6] func155 Z Z (lb Z) Z λa f=> ?_
 unfold D.T at hd
 refine Ag ?_
 refine Ac f Z λa f=>Ay ?_
 refine Aa f Z λa f=>Aa f Z λa f=>Ai f Z Z AF λa f=>Aa f Z λa f=>Aa f Z λa f=>Ai f Z Z As λa f=>Aa f Z λa f=> ?_
 have⟨ab,ac,hd⟩:=bind_some hd
 refine AT f Z call156 (Wk.X m o0 ac) λad ae af w ag m ah a f=> ?_
 obtain⟨ai,rfl,rfl,aj⟩:=ah
 refine Ac f Z λa f=>Ab ?_
 refine Ar ?_
 obtain rfl:=sj hd
 exact⟨[(iv ab.1)],f.g Z,f.d,_,[ai,ib b2 3 [(iv ab.2.2)]],ag,m,_,Z,Z,aj⟩
theorem Wk.i0 {v0:Value}{it0:Itm}{x0:LI}{x1 x2:Int}(m:Mem W G w (it0::H))(o0:Ow R0 2 G it0 v0 x0){y:Int×Int×(LI)}(hd:D.i0 x0 x1 x2=some y):
  Calls prog 134 #[v0,(iv x1),(iv x2)] w (Res W G H (λG' Ho v=>∃i0:Itm,Ho=[i0]∧v= .tuple #[(iv y.1),(iv y.2.1)]∧Ow R0 2 G' i0 v0 y.2.2)):=by
 refine Au (args:=[v0,(iv x1),(iv x2)]) (N:=57) [.tmp 6,.tmp 7] func134 Z Z (lb Z) Z λa f=> ?_
 unfold D.i0 at hd
 refine Ag ?_
 refine Ac f Z λa f=>Ac f Z λa f=>Ay ?_
 refine Aa f Z λa f=>Aa f Z λa f=>Ai f Z Z AF λa f=>Ac f Z λa f=>Ay ?_
 refine Bx (cs:=[(iv 0)]) zeroValue3 m f Z Z λaa w a m f=>Ay ?_
 refine Aa f Z λa f=>Aa f Z λa f=>Ai f Z Z (CK Z) λa f=>Ai f Z Z Ct λa f=>Ai f Z Z As λa f=>Ac f Z λa f=>Ay ?_
 refine Aa f Z λa f=>Aa f Z λa f=>Ai f Z Z (CK Z) λa f=>Ai f Z Z Ct λa f=>Ai f Z Z As λa f=>Ac f Z λa f=>Ay ?_
 refine Aa f Z λa f=>Aa f Z λa f=>Ai f Z Z (CK Z) λa f=>Ai f Z Z Ct λa f=>Ai f Z Z As λa f=>Ac f Z λa f=>Ab (Ah (Ag ?_))
 refine Aa f Z λa f=>Ai f Z Z BH λa f=>Ab ?_
 rcases Af hd with⟨ab,hd⟩|⟨ab,hd⟩
 ·refine Al f Z ab ?_
  refine Ah (Ag ?_)
  refine Aa f Z λa f=>Ai f Z Z BH λa f=>Ab ?_
  have⟨ac,ad,hd⟩:=bind_some hd
  refine AJ (λa w=>∃ae:LI,∃af:Int,∃ag:Int,∃ah:Int,∃ai:Int,(ae,af,ag,ah,ai)=ac∧∃(aj:GH) (ak:Itm),GLe G aj∧Fr a 57 [(0,v0),(9,(pb aa)),(10,(iv af)),(11,(iv ag)),(12,(iv ah))]∧Mem W aj w (ib aa 3 [(iv ai)]::ak::H)∧Ow R0 2 aj ak v0 ae) ?_ ?_
  ·rcases Af ad with⟨al,ad⟩|⟨al,ad⟩
   ·refine Al f Z al ?_
    refine Ag ?_
    refine Aa f Z λa f=>Aa f Z λa f=> ?_
    have m:=m.fr 1
    have⟨am,an,ad⟩:=bind_some ad
    refine AT f Z call155 (Wk.T m o0 an) λao ap aq w ar m au a f=> ?_
    obtain⟨av,rfl,rfl,aw⟩:=au
    refine Ac f Z λa f=>Ay ?_
    refine Aa f Z λa f=>Aa f Z λa f=> ?_
    have⟨ax,ay,ad⟩:=bind_some ad
    refine AT f Z call155 (Wk.T m aw ay) λaz aA aB w aC m aD a f=> ?_
    obtain⟨aE,rfl,rfl,aF⟩:=aD
    refine Ac f Z λa f=>Ab (Ao ?_)
    refine Aa f Z λa f=>Aa f Z λa f=> ?_
    have⟨aG,aH,ad⟩:=bind_some ad
    refine AT f Z call155 (Wk.T m aF aH) λaI aJ aK w aL m aM a f=> ?_
    obtain⟨aN,rfl,rfl,aO⟩:=aM
    refine Ac f Z λa f=>Ab ?_
    have m:=m.fr 1
    obtain rfl:=sj ad
    exact⟨_,_,_,_,_,Z,_,aN,(gt ar (gt aC aL)),f.k Z,m,aO⟩
   ·refine Aj f Z al ?_
    refine An ?_
    obtain rfl:=sj ad
    exact⟨_,_,_,_,_,Z,_,it0,gr,f.k Z,m,o0⟩
  ·rintro a w ⟨ae,af,ag,ah,ai,rfl,aj,ak,aP,f,m,aQ⟩
   refine Ao ?_
   refine Aa f Z λa f=>Aa f Z λa f=>Aa f Z λa f=>Aa f Z λa f=> ?_
   have m:=m.fr 1
   have⟨aR,aS,hd⟩:=bind_some hd
   refine AT f Z call156 (Wk.X m aQ aS) λaT aU aV w aW m aX a f=> ?_
   obtain⟨aY,rfl,rfl,aZ⟩:=aX
   refine Ac f Z λa f=>Ay ?_
   refine A5 1 0 m Pl3 f Z Z Z Z λa f=>Ab (Ak (Ag ?_))
   refine Ai f Z Z BT λa f=>Ac f Z λa f=>Ab ?_
   rcases Af hd with⟨a0,hd⟩|⟨a0,hd⟩
   ·refine Al f Z a0 ?_
    refine Ag ?_
    refine Aa f Z λa f=>Ac f Z λa f=>Ac f Z λa f=>Ab ?_
    refine Ar ?_
    have m:=m.eraseAt 1
    obtain rfl:=sj hd
    exact⟨[(iv aR.1),(iv 1)],⟨f.get _ _ Z,f.get _ _ Z,trivial⟩,f.d,_,[aY],(gt aP aW),m,_,Z,Z,aZ⟩
   ·refine Aj f Z a0 ?_
    refine Ag ?_
    refine Ai f Z Z BT λa f=>Ac f Z λa f=>Ab ?_
    rcases Af hd with⟨a1,hd⟩|⟨a1,hd⟩
    ·refine Al f Z a1 ?_
     refine Ag ?_
     refine Aa f Z λa f=>Ac f Z λa f=>Ac f Z λa f=>Ab ?_
     refine Ar ?_
     have m:=m.eraseAt 1
     obtain rfl:=sj hd
     exact⟨[(iv aR.1),(iv 2)],⟨f.get _ _ Z,f.get _ _ Z,trivial⟩,f.d,_,[aY],(gt aP aW),m,_,Z,Z,aZ⟩
    ·refine Aj f Z a1 ?_
     refine Ag ?_
     refine Aa f Z λa f=>Ac f Z λa f=>Ac f Z λa f=>Ab ?_
     refine Ar ?_
     have m:=m.eraseAt 1
     obtain rfl:=sj hd
     exact⟨[(iv aR.1),(iv 0)],⟨f.get _ _ Z,f.get _ _ Z,trivial⟩,f.d,_,[aY],(gt aP aW),m,_,Z,Z,aZ⟩
 ·refine Aj f Z ab ?_
  refine An ?_
  refine Ag ?_
  refine A5 0 0 m Pl3 f Z Z Z Z λa f=>Ab (Ak (Ag ?_))
  refine Ai f Z Z BT λa f=>Ac f Z λa f=>Ab ?_
  rcases Af hd with⟨a2,hd⟩|⟨a2,hd⟩
  ·refine Al f Z a2 ?_
   refine Ag ?_
   refine Aa f Z λa f=>Ac f Z λa f=>Ac f Z λa f=>Ab ?_
   refine Ar ?_
   have m:=m.fr 1
   have m:=m.eraseAt 1
   obtain rfl:=sj hd
   exact⟨[(iv (i64.wrap (x1+(i64.wrap ((i64.wrap (Int.tdiv (i64.wrap (x2-x1)) 4))*2))))),(iv 1)],⟨f.get _ _ Z,f.get _ _ Z,trivial⟩,f.d,_,[it0],gr,m,_,Z,Z,o0⟩
  ·refine Aj f Z a2 ?_
   refine Ag ?_
   refine Ai f Z Z BT λa f=>Ac f Z λa f=>Ab ?_
   rcases Af hd with⟨a3,hd⟩|⟨a3,hd⟩
   ·refine Al f Z a3 ?_
    refine Ag ?_
    refine Aa f Z λa f=>Ac f Z λa f=>Ac f Z λa f=>Ab ?_
    refine Ar ?_
    have m:=m.fr 1
    have m:=m.eraseAt 1
    obtain rfl:=sj hd
    exact⟨[(iv (i64.wrap (x1+(i64.wrap ((i64.wrap (Int.tdiv (i64.wrap (x2-x1)) 4))*2))))),(iv 2)],⟨f.get _ _ Z,f.get _ _ Z,trivial⟩,f.d,_,[it0],gr,m,_,Z,Z,o0⟩
   ·refine Aj f Z a3 ?_
    refine Ag ?_
    refine Aa f Z λa f=>Ac f Z λa f=>Ac f Z λa f=>Ab ?_
    refine Ar ?_
    have m:=m.fr 1
    have m:=m.eraseAt 1
    obtain rfl:=sj hd
    exact⟨[(iv (i64.wrap (x1+(i64.wrap ((i64.wrap (Int.tdiv (i64.wrap (x2-x1)) 4))*2))))),(iv 0)],⟨f.get _ _ Z,f.get _ _ Z,trivial⟩,f.d,_,[it0],gr,m,_,Z,Z,o0⟩
theorem Wk.Q0 {v0:Value}{it0:Itm}{x0:LI}{x1 x2:Int}(m:Mem W G w (it0::H))(o0:Ow R0 2 G it0 v0 x0){y:(LI)}(hd:D.Q0 x0 x1 x2=some y):
  Calls prog 135 #[v0,(iv x1),(iv x2)] w (Res W G H (λG' Ho _=>∃i0:Itm,Ho=[i0]∧Ow R0 2 G' i0 v0 y)):=by
 refine Au (args:=[v0,(iv x1),(iv x2)]) (N:=32) [] func135 Z Z (lb Z) Z λa f=> ?_
 unfold D.Q0 at hd
 refine Ag ?_
 refine Aa f Z λa f=>Ac f Z λa f=>Ay ?_
 refine Aa f Z λa f=>Ai f Z Z AF λa f=>Ac f Z λa f=>Ab ?_
 have⟨aa,ab,hd⟩:=bind_some hd
 refine AJ (λa w=>∃ac:LI,ac=aa∧∃(ad:GH) (ae:Itm),GLe G ad∧Fr a 32 []∧Mem W ad w (ae::H)∧Ow R0 2 ad ae v0 ac) ?_ ?_
 ·refine Ak ?_
  refine AK (λaf a w=>∃ag:LI,∃ah:Int,∃ai:Int,(ag,ah,ai)=af∧∃(aj:GH) (ak:Itm),GLe G aj∧Fr a 32 [(0,v0),(6,(iv ah)),(7,(iv ai))]∧Mem W aj w (ak::H)∧Ow R0 2 aj ak v0 ag) ab ⟨_,_,_,Z,_,it0,gr,f.k Z,m,o0⟩ ?_
  clear ab f m
  rintro af al am an a w ⟨ag,ah,ai,rfl,aj,ak,ao,f,m,ap⟩
  refine Ah (Ag ?_)
  refine Aa f Z λa f=>Aa f Z λa f=>Ai f Z Z AV λa f=>Ab ?_
  rcases Af am with⟨aq,am⟩|⟨aq,am⟩
  ·refine Al f Z aq ?_
   refine An ?_
   refine Ak (Ah ?_)
   refine Bj Az m ?_
   refine p_p 2 Z f (λ_=>AU (f.e Z)) λa f=>p_p 3 Z f (λ_=>AU (f.e Z)) λa f=>Bi 12013 11 (by kernel_rfl) Z ?_
   refine Ae 0 12013 Z f Z λa f=>Ae 1 12013 Z f Z λa f=>Ae 4 12013 Z f Z λa f=>Ae 5 12013 Z f Z λa f=> ?_
   have⟨ar,au,am⟩:=bind_some am
   refine AW 6 12013 0 m ap T28 au Z f Z Z λav a aw f=>Ba 7 12013 0 ap Pl2 aw au Z f Z λax a ay f=> ?_
   subst ay
   refine Ae 8 12013 Z f Z λa f=>Ae 9 12013 Z f Z λa f=> ?_
   have⟨az,aA,am⟩:=bind_some am
   refine AW 10 12013 0 m ap T28 aA Z f Z Z λaB a aC f=>Ba 11 12013 0 ap Pl2 aC aA Z f Z λaD a aE f=> ?_
   subst aE
   have⟨aF,aG,am⟩:=bind_some am
   refine AW 12 12013 0 m ap T28 aG Z f Z Z λaH a aI f=>AN λaJ w aK m=> ?_
   have ap:=od1 aK ap
   refine AM 0 m ap Z sizeOf2 f Z Z aI aG Z Z Z λaL w m aM=> ?_
   have⟨aN,aO,am⟩:=bind_some am
   refine Bo 0 m aM Z T28 f Z Z Z aO λaP a aQ f=>AM 0 m aM Z sizeOf2 f Z Z aQ aO Z Z Z λaR w m aS=>Ay ?_
   refine Aa f Z λa f=>Ai f Z Z As λa f=>Ac f Z λa f=>Ab (Ao ?_)
   refine Aa f Z λa f=>Ai f Z Z AF λa f=>Ac f Z λa f=>Ab ?_
   obtain rfl:=sj am
   exact⟨_,Z,_,_,_,Z,_,aR,(gt ao aK),f.k Z,m,aS⟩
  ·refine Aj f Z aq ?_
   refine AG Z ?_
   obtain rfl:=sj am
   obtain rfl:=an _ rfl
   exact⟨_,Z,_,ak,ao,f.weak trivial,m,ap⟩
 ·rintro a w ⟨ac,rfl,ad,ae,aT,f,m,aU⟩
  obtain rfl:=sj hd
  exact⟨[],trivial,f.d,_,[ae],aT,m,_,Z,aU⟩
theorem Wk.j0 {v0:Value}{it0:Itm}{x0:LI}{x1 x2:Int}(m:Mem W G w (it0::H))(o0:Ow R0 2 G it0 v0 x0){y:Bool×(LI)}(hd:D.j0 x0 x1 x2=some y):
  Calls prog 136 #[v0,(iv x1),(iv x2)] w (Res W G H (λG' Ho v=>∃i0:Itm,Ho=[i0]∧v=(.bool y.1)∧Ow R0 2 G' i0 v0 y.2)):=by
 refine Au (args:=[v0,(iv x1),(iv x2)]) (N:=133) [.tmp 6] func136 Z Z (lb Z) Z λa f=> ?_
 unfold D.j0 at hd
 refine Ag ?_
 refine Ac f Z λa f=>Ay ?_
 refine Aa f Z λa f=>Ai f Z Z As λa f=>Ac f Z λa f=>Ab (Ah (Ag ?_))
 refine Ac f Z λa f=>Ab ?_
 have⟨aa,ab,hd⟩:=bind_some hd
 refine AJ (λa w=>∃q_1621':LI,aa= .inl q_1621'∧∃ac:LI,ac=q_1621'∧∃(ad:GH) (ae:Itm),GLe G ad∧Fr a 133 []∧Mem W ad w (ae::H)∧Ow R0 2 ad ae v0 ac) ?_ ?_
 ·refine Ak ?_
  refine AK (λaf a w=>∃ag:LI,∃ah:Int,∃ai:Int,(ag,ah,ai)=af∧∃(aj:GH) (ak:Itm),GLe G aj∧Fr a 133 [(0,v0),(1,(iv x1)),(2,(iv x2)),(7,(iv ah)),(8,(iv ai))]∧Mem W aj w (ak::H)∧Ow R0 2 aj ak v0 ag) ab ⟨_,_,_,Z,_,it0,gr,f.k Z,m,o0⟩ ?_
  clear ab f m
  rintro af al am an a w ⟨ag,ah,ai,rfl,aj,ak,ao,f,m,ap⟩
  refine Ah (Ag ?_)
  refine Aa f Z λa f=>Ai f Z Z AV λa f=>Ab ?_
  rcases Af am with⟨aq,am⟩|⟨aq,am⟩
  ·refine Al f Z aq ?_
   refine An ?_
   refine Ah (Ak (Ah ?_))
   have⟨ar,au,am⟩:=bind_some am
   refine AJ (λa w=>∃av:Int,av=ar∧∃(aw:GH),GLe aj aw∧Fr a 133 [(0,v0),(1,(iv x1)),(2,(iv x2)),(7,(iv av)),(8,(iv ai))]∧Mem W aw w (ak::H)) ?_ ?_
   ·refine Ak ?_
    refine AK (λax a w=>∃ay:Int,ay=ax∧∃(az:GH),GLe aj az∧Fr a 133 [(0,v0),(1,(iv x1)),(2,(iv x2)),(7,(iv ay)),(8,(iv ai))]∧Mem W az w (ak::H)) au ⟨_,Z,_,gr,f.k Z,m⟩ ?_
    clear au f m
    rintro ax aA aB aC a w ⟨ay,rfl,az,aD,f,m⟩
    have ap:=od1 aD ap
    refine Ah (Ah ?_)
    refine A4 16 Az (by kernel_rfl) m ?_
    refine Ae 0 16 Z f Z λa f=>Ae 1 16 Z f Z λa f=>q_p 2 16 Z f (λ_=>AB (f.e Z) (f.e Z) AV) λa f=>Ae 3 16 Z f Z λa f=> ?_
    have⟨aE,aF,aB⟩:=bind_some aB
    refine BR (fuel':=0) (listed':= #[true,true,true,true,true,true,true,true,true,true,true,true,true,true,true,true]) (λa=>Fr a 133 [(0,v0),(1,(iv x1)),(2,(iv x2)),(7,(iv ay)),(8,(iv ai)),(17,(iv ay)),(18,(iv x2)),(19,(.bool (decide (ay<x2)))),(20,(.bool (decide (ay<x2)))),(32,(.bool aE))]) ?_ ?_
    ·intro a f
     refine AN λaG w aH m=>Ab ?_
     rcases Af aB with⟨aI,aB⟩|⟨aI,aB⟩
     ·refine Al f Z aI ?_
      refine An ?_
      refine Ak (Ao ?_)
      refine Aa f Z λa f=>Ai f Z Z As λa f=>Ac f Z λa f=>Ab ?_
      obtain rfl:=sj aB
      exact⟨_,Z,_,Z,_,(gt aD aH),f.k Z,m⟩
     ·refine Aj f Z aI ?_
      refine AG Z ?_
      obtain rfl:=sj aB
      obtain rfl:=aC _ rfl
      exact⟨_,Z,_,(gt aD aH),f.k Z,m⟩
    ·intro aJ
     rcases Af aF with⟨aK,aF⟩|⟨aK,aF⟩
     ·refine Ae (hw:=wo f aK) 4 16 Z f Z λa f=> ?_
      refine Ae (hw:=wo f aK) 5 16 Z f Z λa f=> ?_
      have⟨aL,aM,aF⟩:=bind_some aF
      refine AW (hw:=wo f aK) 6 16 0 m ap T28 aM Z f Z Z λaN a aO f=>Ba (hw:=wo f aK) 7 16 0 ap Pl2 aO aM Z f Z λaP a aQ f=> ?_
      subst aQ
      refine Ae (hw:=wo f aK) 8 16 Z f Z λa f=>Ae (hw:=wo f aK) 9 16 Z f Z λa f=>q_p (hw:=wo f aK) 10 16 Z f (λ_=>AB (f.e Z) (f.e Z) AF) λa f=> ?_
      have⟨aR,aS,aF⟩:=bind_some aF
      refine AW (hw:=wo f aK) 11 16 0 m ap T28 aS Z f Z Z λaT a aU f=>Ba (hw:=wo f aK) 12 16 0 ap Pl2 aU aS Z f Z λaV a aW f=> ?_
      subst aW
      have⟨aX,aY,aF⟩:=bind_some aF
      refine Bu (i:=13) 16 Z (by kernel_rfl) Z f (AC f Z Z Z aK) Z Z call137 (λ_ _ w aZ m=>Wk.a m aY) λa f=>q_p (hw:=wo f aK) 14 16 Z f (λ_=>Bg (f.e Z)) λa f=>q_p 15 16 Z f (λ_=>AS (f.e Z) aK (f.e Z)) λa f=> ?_
      obtain rfl:=sj aF
      exact aJ _ (f.k Z)
     ·refine Am 4 16 Z f aK λa f=> ?_
      refine Am 5 16 Z f aK λa f=>Am 6 16 Z f aK λa f=>Am 7 16 Z f aK λa f=>Am 8 16 Z f aK λa f=>Am 9 16 Z f aK λa f=>Am 10 16 Z f aK λa f=>Am 11 16 Z f aK λa f=>Am 12 16 Z f aK λa f=>Am 13 16 Z f aK λa f=>Am 14 16 Z f aK λa f=>q_p 15 16 Z f (λ_=>AR (f.e Z) aK (f.e Z)) λa f=> ?_
      obtain rfl:=sj aF
      exact aJ _ (f.k Z)
   ·rintro a w ⟨av,rfl,aw,a0,f,m⟩
    have ap:=od1 a0 ap
    refine Ah (Ag ?_)
    refine Aa f Z λa f=>Aa f Z λa f=>Ai f Z Z BT λa f=>Ab ?_
    rcases Af am with⟨a1,am⟩|⟨a1,am⟩
    ·refine Al f Z a1 ?_
     refine Ag ?_
     refine Ac f Z λa f=>Ab ?_
     refine Ar ?_
     obtain rfl:=sj am
     obtain rfl:=an _ rfl
     obtain rfl:=sj hd
     exact⟨[(.bool true)],f.g Z,f.d,_,[ak],(gt ao a0),m,_,Z,Z,ap⟩
    ·refine Aj f Z a1 ?_
     refine An ?_
     refine Ah (Ag ?_)
     refine Aa f Z λa f=>Aa f Z λa f=>Ai f Z Z AF λa f=>Ai f Z Z AV λa f=>Ab ?_
     rcases Af am with⟨a2,am⟩|⟨a2,am⟩
     ·refine Al f Z a2 ?_
      refine Ag ?_
      refine Ac f Z λa f=>Ab ?_
      refine Ar ?_
      obtain rfl:=sj am
      obtain rfl:=an _ rfl
      obtain rfl:=sj hd
      exact⟨[(.bool false)],f.g Z,f.d,_,[ak],(gt ao a0),m,_,Z,Z,ap⟩
     ·refine Aj f Z a2 ?_
      refine An ?_
      refine Ah ?_
      refine Bj Az m ?_
      refine p_p 2 Z f (λ_=>AU (f.e Z)) λa f=>p_p 3 Z f (λ_=>AU (f.e Z)) λa f=>p_p 4 Z f (λ_=>AB (f.e Z) (f.e Z) AF) λa f=>Bi 28015 12 (by kernel_rfl) Z ?_
      refine Ae 0 28015 Z f Z λa f=>Ae 1 28015 Z f Z λa f=>Ae 5 28015 Z f Z λa f=>Ae 6 28015 Z f Z λa f=>q_p 7 28015 Z f (λ_=>AB (f.e Z) (f.e Z) AF) λa f=> ?_
      have⟨a3,a4,am⟩:=bind_some am
      refine AW 8 28015 0 m ap T28 a4 Z f Z Z λa5 a a6 f=>Ba 9 28015 0 ap Pl2 a6 a4 Z f Z λa7 a a8 f=> ?_
      subst a8
      refine Ae 10 28015 Z f Z λa f=>Ae 11 28015 Z f Z λa f=> ?_
      have⟨a9,ba,am⟩:=bind_some am
      refine AW 12 28015 0 m ap T28 ba Z f Z Z λbb a bc f=>Ba 13 28015 0 ap Pl2 bc ba Z f Z λbd a be f=> ?_
      subst be
      have⟨bf,bg,am⟩:=bind_some am
      refine AW 14 28015 0 m ap T28 bg Z f Z Z λbh a bi f=>AN λbj w bk m=> ?_
      have ap:=od1 bk ap
      refine AM 0 m ap Z sizeOf2 f Z Z bi bg Z Z Z λbl w m bm=> ?_
      have⟨bn,bo,am⟩:=bind_some am
      refine Bo 0 m bm Z T28 f Z Z Z bo λbp a bq f=>AM 0 m bm Z sizeOf2 f Z Z bq bo Z Z Z λbr w m bs=>Ab (Ah (Ag ?_))
      refine Aa f Z λa f=>Aa f Z λa f=>Ai f Z Z AF λa f=>Ai f Z Z BH λa f=>Ab ?_
      have⟨bt,bu,am⟩:=bind_some am
      refine AJ (λa w=>∃bv:LI,bv=bt∧∃(bw:GH) (bx:Itm),GLe bj bw∧Fr a 133 [(0,v0),(1,(iv x1)),(2,(iv x2)),(7,(iv av)),(8,(iv ai))]∧Mem W bw w (bx::H)∧Ow R0 2 bw bx v0 bv) ?_ ?_
      ·rcases Af bu with⟨bz,bu⟩|⟨bz,bu⟩
       ·refine Al f Z bz ?_
        refine Ag ?_
        refine Aa f Z λa f=>Ai f Z Z AF λa f=>Ac f Z λa f=>Ab ?_
        have⟨bA,bB,bu⟩:=bind_some bu
        refine AJ (λa w=>∃bC:LI,bC=bA∧∃(bD:GH) (bE:Itm),GLe bj bD∧Fr a 133 [(0,v0),(1,(iv x1)),(2,(iv x2)),(7,(iv av)),(8,(iv ai))]∧Mem W bD w (bE::H)∧Ow R0 2 bD bE v0 bC) ?_ ?_
        ·refine Ak ?_
         refine AK (λbF a w=>∃bG:LI,∃bH:Int,(bG,bH)=bF∧∃(bI:GH) (bJ:Itm),GLe bj bI∧Fr a 133 [(0,v0),(1,(iv x1)),(2,(iv x2)),(7,(iv av)),(8,(iv ai)),(9,(iv bH))]∧Mem W bI w (bJ::H)∧Ow R0 2 bI bJ v0 bG) bB ⟨_,_,Z,_,br,gr,f.k Z,m,bs⟩ ?_
         clear bB f m
         rintro bF bK bL bM a w ⟨bG,bH,rfl,bI,bJ,bN,f,m,bO⟩
         refine Ah (Ag ?_)
         refine Aa f Z λa f=>Ai f Z Z BH λa f=>Ab ?_
         rcases Af bL with⟨bP,bL⟩|⟨bP,bL⟩
         ·refine Al f Z bP ?_
          refine An ?_
          refine Ah (Ak (Ah (Ah ?_)))
          refine A4 11 Az (by kernel_rfl) m ?_
          refine Ae 0 11 Z f Z λa f=>Ae 1 11 Z f Z λa f=> ?_
          have⟨bQ,bR,bL⟩:=bind_some bL
          refine AW 2 11 0 m bO T28 bR Z f Z Z λbS a bT f=>Ba 3 11 0 bO Pl2 bT bR Z f Z λbU a bV f=> ?_
          subst bV
          refine Ae 4 11 Z f Z λa f=>Ae 5 11 Z f Z λa f=>q_p 6 11 Z f (λ_=>AB (f.e Z) (f.e Z) AF) λa f=> ?_
          have⟨bW,bX,bL⟩:=bind_some bL
          refine AW 7 11 0 m bO T28 bX Z f Z Z λbY a bZ f=>Ba 8 11 0 bO Pl2 bZ bX Z f Z λb0 a b1 f=> ?_
          subst b1
          have⟨b2,b3,bL⟩:=bind_some bL
          refine Bu (i:=9) 11 Z (by kernel_rfl) Z f Z Z Z call137 (λ_ _ w b4 m=>Wk.a m b3) λa f=>q_p 10 11 Z f (λ_=>Bg (f.e Z)) λa f=>AN λb5 w b6 m=> ?_
          have bO:=od1 b6 bO
          refine Ab ?_
          rcases Af bL with⟨b7,bL⟩|⟨b7,bL⟩
          ·refine Al f Z b7 ?_
           refine AG Z ?_
           obtain rfl:=sj bL
           obtain rfl:=bM _ rfl
           exact⟨_,Z,_,bJ,(gt bN b6),f.k Z,m,bO⟩
          ·refine Aj f Z b7 ?_
           refine An ?_
           refine Bj Az m ?_
           refine p_p 2 Z f (λ_=>AU (f.e Z)) λa f=>p_p 3 Z f (λ_=>AU (f.e Z)) λa f=>p_p 4 Z f (λ_=>AB (f.e Z) (f.e Z) AF) λa f=>Bi 28015 12 (by kernel_rfl) Z ?_
           refine Ae 0 28015 Z f Z λa f=>Ae 1 28015 Z f Z λa f=>Ae 5 28015 Z f Z λa f=>Ae 6 28015 Z f Z λa f=>q_p 7 28015 Z f (λ_=>AB (f.e Z) (f.e Z) AF) λa f=> ?_
           have⟨b8,b9,bL⟩:=bind_some bL
           refine AW 8 28015 0 m bO T28 b9 Z f Z Z λca a cb f=>Ba 9 28015 0 bO Pl2 cb b9 Z f Z λcc a cd f=> ?_
           subst cd
           refine Ae 10 28015 Z f Z λa f=>Ae 11 28015 Z f Z λa f=> ?_
           have⟨ce,cf,bL⟩:=bind_some bL
           refine AW 12 28015 0 m bO T28 cf Z f Z Z λcg a ch f=>Ba 13 28015 0 bO Pl2 ch cf Z f Z λci a cj f=> ?_
           subst cj
           have⟨ck,cl,bL⟩:=bind_some bL
           refine AW 14 28015 0 m bO T28 cl Z f Z Z λcm a cn f=>AN λco w cp m=> ?_
           have bO:=od1 cp bO
           refine AM 0 m bO Z sizeOf2 f Z Z cn cl Z Z Z λcq w m cr=> ?_
           have⟨cs,ct,bL⟩:=bind_some bL
           refine Bo 0 m cr Z T28 f Z Z Z ct λcu a cv f=>AM 0 m cr Z sizeOf2 f Z Z cv ct Z Z Z λcw w m cx=>Ab (Ao ?_)
           refine Aa f Z λa f=>Ai f Z Z AF λa f=>Ac f Z λa f=>Ab ?_
           obtain rfl:=sj bL
           exact⟨_,Z,_,_,Z,_,cw,(gt bN (gt b6 cp)),f.k Z,m,cx⟩
         ·refine Aj f Z bP ?_
          refine AG Z ?_
          obtain rfl:=sj bL
          obtain rfl:=bM _ rfl
          exact⟨_,Z,_,bJ,bN,f.k Z,m,bO⟩
        ·rintro a w ⟨bC,rfl,bD,bE,cy,f,m,cz⟩
         obtain rfl:=sj bu
         exact⟨_,Z,_,bE,cy,f.k Z,m,cz⟩
       ·refine Aj f Z bz ?_
        refine An ?_
        obtain rfl:=sj bu
        exact⟨_,Z,_,br,gr,f.k Z,m,bs⟩
      ·rintro a w ⟨bv,rfl,bw,bx,cA,f,m,cB⟩
       refine Ag ?_
       refine Aa f Z λa f=>Aa f Z λa f=>Ai f Z Z AF λa f=>Ai f Z Z BH λa f=>Ab ?_
       rcases Af am with⟨cC,am⟩|⟨cC,am⟩
       ·refine Al f Z cC ?_
        refine Ag ?_
        refine Aa f Z λa f=>Ai f Z Z As λa f=>Ac f Z λa f=>Ab ?_
        have⟨cD,cE,am⟩:=bind_some am
        refine AJ (λa w=>∃cF:LI,cF=cD∧∃(cG:GH) (cH:Itm),GLe bw cG∧Fr a 133 [(0,v0),(1,(iv x1)),(2,(iv x2)),(7,(iv av)),(8,(iv ai))]∧Mem W cG w (cH::H)∧Ow R0 2 cG cH v0 cF) ?_ ?_
        ·refine Ak ?_
         refine AK (λcI a w=>∃cJ:LI,∃cK:Int,(cJ,cK)=cI∧∃(cL:GH) (cM:Itm),GLe bw cL∧Fr a 133 [(0,v0),(1,(iv x1)),(2,(iv x2)),(7,(iv av)),(8,(iv ai)),(10,(iv cK))]∧Mem W cL w (cM::H)∧Ow R0 2 cL cM v0 cJ) cE ⟨_,_,Z,_,bx,gr,f.k Z,m,cB⟩ ?_
         clear cE f m
         rintro cI cN cO cP a w ⟨cJ,cK,rfl,cL,cM,cQ,f,m,cR⟩
         refine Ah (Ag ?_)
         refine Aa f Z λa f=>Aa f Z λa f=>Ai f Z Z AV λa f=>Ab ?_
         rcases Af cO with⟨cS,cO⟩|⟨cS,cO⟩
         ·refine Al f Z cS ?_
          refine An ?_
          refine Ah (Ak (Ah (Ah ?_)))
          refine A4 11 Az (by kernel_rfl) m ?_
          refine Ae 0 11 Z f Z λa f=>Ae 1 11 Z f Z λa f=> ?_
          have⟨cT,cU,cO⟩:=bind_some cO
          refine AW 2 11 0 m cR T28 cU Z f Z Z λcV a cW f=>Ba 3 11 0 cR Pl2 cW cU Z f Z λcX a cY f=> ?_
          subst cY
          refine Ae 4 11 Z f Z λa f=>Ae 5 11 Z f Z λa f=>q_p 6 11 Z f (λ_=>AB (f.e Z) (f.e Z) AF) λa f=> ?_
          have⟨cZ,c0,cO⟩:=bind_some cO
          refine AW 7 11 0 m cR T28 c0 Z f Z Z λc1 a c2 f=>Ba 8 11 0 cR Pl2 c2 c0 Z f Z λc3 a c4 f=> ?_
          subst c4
          have⟨c5,c6,cO⟩:=bind_some cO
          refine Bu (i:=9) 11 Z (by kernel_rfl) Z f Z Z Z call137 (λ_ _ w c7 m=>Wk.a m c6) λa f=>q_p 10 11 Z f (λ_=>Bg (f.e Z)) λa f=>AN λc8 w c9 m=> ?_
          have cR:=od1 c9 cR
          refine Ab ?_
          rcases Af cO with⟨da,cO⟩|⟨da,cO⟩
          ·refine Al f Z da ?_
           refine AG Z ?_
           obtain rfl:=sj cO
           obtain rfl:=cP _ rfl
           exact⟨_,Z,_,cM,(gt cQ c9),f.k Z,m,cR⟩
          ·refine Aj f Z da ?_
           refine An ?_
           refine Bj Az m ?_
           refine p_p 2 Z f (λ_=>AU (f.e Z)) λa f=>p_p 3 Z f (λ_=>AU (f.e Z)) λa f=>p_p 4 Z f (λ_=>AB (f.e Z) (f.e Z) AF) λa f=>Bi 28015 12 (by kernel_rfl) Z ?_
           refine Ae 0 28015 Z f Z λa f=>Ae 1 28015 Z f Z λa f=>Ae 5 28015 Z f Z λa f=>Ae 6 28015 Z f Z λa f=>q_p 7 28015 Z f (λ_=>AB (f.e Z) (f.e Z) AF) λa f=> ?_
           have⟨db,dc,cO⟩:=bind_some cO
           refine AW 8 28015 0 m cR T28 dc Z f Z Z λdd a de f=>Ba 9 28015 0 cR Pl2 de dc Z f Z λdf a dg f=> ?_
           subst dg
           refine Ae 10 28015 Z f Z λa f=>Ae 11 28015 Z f Z λa f=> ?_
           have⟨dh,di,cO⟩:=bind_some cO
           refine AW 12 28015 0 m cR T28 di Z f Z Z λdj a dk f=>Ba 13 28015 0 cR Pl2 dk di Z f Z λdl a dm f=> ?_
           subst dm
           have⟨dn,dp,cO⟩:=bind_some cO
           refine AW 14 28015 0 m cR T28 dp Z f Z Z λdq a dr f=>AN λds w dt m=> ?_
           have cR:=od1 dt cR
           refine AM 0 m cR Z sizeOf2 f Z Z dr dp Z Z Z λdu w m dv=> ?_
           have⟨dw,dx,cO⟩:=bind_some cO
           refine Bo 0 m dv Z T28 f Z Z Z dx λdy a dz f=>AM 0 m dv Z sizeOf2 f Z Z dz dx Z Z Z λdA w m dB=>Ab (Ao ?_)
           refine Aa f Z λa f=>Ai f Z Z As λa f=>Ac f Z λa f=>Ab ?_
           obtain rfl:=sj cO
           exact⟨_,Z,_,_,Z,_,dA,(gt cQ (gt c9 dt)),f.k Z,m,dB⟩
         ·refine Aj f Z cS ?_
          refine AG Z ?_
          obtain rfl:=sj cO
          obtain rfl:=cP _ rfl
          exact⟨_,Z,_,cM,cQ,f.k Z,m,cR⟩
        ·rintro a w ⟨cF,rfl,cG,cH,dC,f,m,dD⟩
         refine Ao ?_
         refine Aa f Z λa f=>Ai f Z Z As λa f=>Ac f Z λa f=>Ab ?_
         obtain rfl:=sj am
         exact⟨_,Z,_,_,_,Z,_,cH,(gt ao (gt a0 (gt bk (gt cA dC)))),f.k Z,m,dD⟩
       ·refine Aj f Z cC ?_
        refine An ?_
        refine Ao ?_
        refine Aa f Z λa f=>Ai f Z Z As λa f=>Ac f Z λa f=>Ab ?_
        obtain rfl:=sj am
        exact⟨_,Z,_,_,_,Z,_,bx,(gt ao (gt a0 (gt bk cA))),f.k Z,m,cB⟩
  ·refine Aj f Z aq ?_
   refine AG Z ?_
   obtain rfl:=sj am
   obtain rfl:=an _ rfl
   exact⟨_,Z,_,Z,_,ak,ao,f.weak trivial,m,ap⟩
 ·rintro a w ⟨_,rfl,ac,rfl,ad,ae,dE,f,m,dF⟩
  refine Ag ?_
  refine Ac f Z λa f=>Ab ?_
  refine Ar ?_
  obtain rfl:=sj hd
  exact⟨[(.bool false)],f.g Z,f.d,_,[ae],dE,m,_,Z,Z,dF⟩
theorem Wk.H0 {v0:Value}{it0:Itm}{x0:LI}{x1 x2 x3:Int}(m:Mem W G w (it0::H))(o0:Ow R0 2 G it0 v0 x0){y:Int×(LI)}(hd:D.H0 x0 x1 x2 x3=some y):
  Calls prog 138 #[v0,(iv x1),(iv x2),(iv x3)] w (Res W G H (λG' Ho v=>∃i0:Itm,Ho=[i0]∧v=(iv y.1)∧Ow R0 2 G' i0 v0 y.2)):=by
 refine Au (args:=[v0,(iv x1),(iv x2),(iv x3)]) (N:=84) [.tmp 8] func138 Z Z (lb Z) Z λa f=> ?_
 unfold D.H0 at hd
 refine Ag ?_
 refine Ac f Z λa f=>Ab (Ah ?_)
 refine Bj Az m ?_
 refine p_p 2 Z f (λ_=>AU (f.e Z)) λa f=>p_p 3 Z f (λ_=>AU (f.e Z)) λa f=>Bi 12013 11 (by kernel_rfl) Z ?_
 refine Ae 0 12013 Z f Z λa f=>Ae 1 12013 Z f Z λa f=>Ae 4 12013 Z f Z λa f=>Ae 5 12013 Z f Z λa f=> ?_
 have⟨aa,ab,hd⟩:=bind_some hd
 refine AW 6 12013 0 m o0 T28 ab Z f Z Z λac a ad f=>Ba 7 12013 0 o0 Pl2 ad ab Z f Z λae a af f=> ?_
 subst af
 refine Ae 8 12013 Z f Z λa f=>Ae 9 12013 Z f Z λa f=> ?_
 have⟨ag,ah,hd⟩:=bind_some hd
 refine AW 10 12013 0 m o0 T28 ah Z f Z Z λai a aj f=>Ba 11 12013 0 o0 Pl2 aj ah Z f Z λak a al f=> ?_
 subst al
 have⟨am,an,hd⟩:=bind_some hd
 refine AW 12 12013 0 m o0 T28 an Z f Z Z λao a ap f=>AN λaq w ar m=> ?_
 have o0:=od1 ar o0
 refine AM 0 m o0 Z sizeOf2 f Z Z ap an Z Z Z λau w m av=> ?_
 have⟨aw,ax,hd⟩:=bind_some hd
 refine Bo 0 m av Z T28 f Z Z Z ax λay a az f=>AM 0 m av Z sizeOf2 f Z Z az ax Z Z Z λaA w m aB=>Ay ?_
 refine Aa f Z λa f=>Ai f Z Z As λa f=>Aa f Z λa f=>Ai f Z Z AF λa f=>Ac f Z λa f=>Ac f Z λa f=>Ab (Ah ?_)
 have⟨aC,aD,hd⟩:=bind_some hd
 refine AJ (λa w=>∃aE:LI,∃aF:Int,(aE,aF)=aC∧∃(aG:GH) (aH:Itm),GLe aq aG∧Fr a 84 [(9,(iv aF))]∧Mem W aG w (aH::H)∧Ow R0 2 aG aH v0 aE) ?_ ?_
 ·refine Ak ?_
  refine AK (λaI a w=>∃aJ:LI,∃aK:Int,∃aL:Int,(aJ,aK,aL)=aI∧∃(aM:GH) (aN:Itm),GLe aq aM∧Fr a 84 [(0,v0),(1,(iv x1)),(9,(iv aK)),(10,(iv aL))]∧Mem W aM w (aN::H)∧Ow R0 2 aM aN v0 aJ) aD ⟨_,_,_,Z,_,aA,gr,f.k Z,m,aB⟩ ?_
  clear aD f m
  rintro aI aO aP aQ a w ⟨aJ,aK,aL,rfl,aM,aN,aR,f,m,aS⟩
  refine Ak (Ah ?_)
  have⟨aT,aU,aP⟩:=bind_some aP
  refine AJ (λa w=>∃aV:Int,aV=aT∧∃(aW:GH),GLe aM aW∧Fr a 84 [(0,v0),(1,(iv x1)),(9,(iv aV)),(10,(iv aL))]∧Mem W aW w (aN::H)) ?_ ?_
  ·refine Ak ?_
   refine AK (λaX a w=>∃aY:Int,aY=aX∧∃(aZ:GH),GLe aM aZ∧Fr a 84 [(0,v0),(1,(iv x1)),(9,(iv aY)),(10,(iv aL))]∧Mem W aZ w (aN::H)) aU ⟨_,Z,_,gr,f.k Z,m⟩ ?_
   clear aU f m
   rintro aX a0 a1 a2 a w ⟨aY,rfl,aZ,a3,f,m⟩
   have aS:=od1 a3 aS
   refine Ah (Ah ?_)
   refine A4 15 Az (by kernel_rfl) m ?_
   refine Ae 0 15 Z f Z λa f=>Ae 1 15 Z f Z λa f=>q_p 2 15 Z f (λ_=>AB (f.e Z) (f.e Z) B5) λa f=>Ae 3 15 Z f Z λa f=> ?_
   have⟨a4,a5,a1⟩:=bind_some a1
   refine BR (fuel':=0) (listed':= #[true,true,true,true,true,true,true,true,true,true,true,true,true,true,true]) (λa=>Fr a 84 [(0,v0),(1,(iv x1)),(9,(iv aY)),(10,(iv aL)),(29,(iv aY)),(30,(iv aL)),(31,(.bool (decide (aY≤aL)))),(32,(.bool (decide (aY≤aL)))),(43,(.bool a4))]) ?_ ?_
   ·intro a f
    refine AN λa6 w a7 m=>Ab ?_
    rcases Af a1 with⟨a8,a1⟩|⟨a8,a1⟩
    ·refine Al f Z a8 ?_
     refine An ?_
     refine Ak (Ao ?_)
     refine Aa f Z λa f=>Ai f Z Z As λa f=>Ac f Z λa f=>Ab ?_
     obtain rfl:=sj a1
     exact⟨_,Z,_,Z,_,(gt a3 a7),f.k Z,m⟩
    ·refine Aj f Z a8 ?_
     refine AG Z ?_
     obtain rfl:=sj a1
     obtain rfl:=a2 _ rfl
     exact⟨_,Z,_,(gt a3 a7),f.k Z,m⟩
   ·intro a9
    rcases Af a5 with⟨ba,a5⟩|⟨ba,a5⟩
    ·refine Ae (hw:=wo f ba) 4 15 Z f Z λa f=> ?_
     refine Ae (hw:=wo f ba) 5 15 Z f Z λa f=> ?_
     have⟨bb,bc,a5⟩:=bind_some a5
     refine AW (hw:=wo f ba) 6 15 0 m aS T28 bc Z f Z Z λbd a be f=>Ba (hw:=wo f ba) 7 15 0 aS Pl2 be bc Z f Z λbf a bg f=> ?_
     subst bg
     refine Ae (hw:=wo f ba) 8 15 Z f Z λa f=>Ae (hw:=wo f ba) 9 15 Z f Z λa f=> ?_
     have⟨bh,bi,a5⟩:=bind_some a5
     refine AW (hw:=wo f ba) 10 15 0 m aS T28 bi Z f Z Z λbj a bk f=>Ba (hw:=wo f ba) 11 15 0 aS Pl2 bk bi Z f Z λbl a bm f=> ?_
     subst bm
     have⟨bn,bo,a5⟩:=bind_some a5
     refine Bu (i:=12) 15 Z (by kernel_rfl) Z f (AC f Z Z Z ba) Z Z call137 (λ_ _ w bp m=>Wk.a m bo) λa f=>q_p (hw:=wo f ba) 13 15 Z f (λ_=>Bg (f.e Z)) λa f=>q_p 14 15 Z f (λ_=>AS (f.e Z) ba (f.e Z)) λa f=> ?_
     obtain rfl:=sj a5
     exact a9 _ (f.k Z)
    ·refine Am 4 15 Z f ba λa f=> ?_
     refine Am 5 15 Z f ba λa f=>Am 6 15 Z f ba λa f=>Am 7 15 Z f ba λa f=>Am 8 15 Z f ba λa f=>Am 9 15 Z f ba λa f=>Am 10 15 Z f ba λa f=>Am 11 15 Z f ba λa f=>Am 12 15 Z f ba λa f=>Am 13 15 Z f ba λa f=>q_p 14 15 Z f (λ_=>AR (f.e Z) ba (f.e Z)) λa f=> ?_
     obtain rfl:=sj a5
     exact a9 _ (f.k Z)
  ·rintro a w ⟨aV,rfl,aW,bq,f,m⟩
   have aS:=od1 bq aS
   refine Ah ?_
   have⟨br,bs,aP⟩:=bind_some aP
   refine AJ (λa w=>∃bt:Int,bt=br∧∃(bu:GH),GLe aW bu∧Fr a 84 [(0,v0),(1,(iv x1)),(9,(iv aV)),(10,(iv bt))]∧Mem W bu w (aN::H)) ?_ ?_
   ·refine Ak ?_
    refine AK (λbv a w=>∃bw:Int,bw=bv∧∃(bx:GH),GLe aW bx∧Fr a 84 [(0,v0),(1,(iv x1)),(9,(iv aV)),(10,(iv bw))]∧Mem W bx w (aN::H)) bs ⟨_,Z,_,gr,f.k Z,m⟩ ?_
    clear bs f m
    rintro bv bz bA bB a w ⟨bw,rfl,bx,bC,f,m⟩
    have aS:=od1 bC aS
    refine Ah (Ah ?_)
    refine A4 14 Az (by kernel_rfl) m ?_
    refine Ae 0 14 Z f Z λa f=>Ae 1 14 Z f Z λa f=>q_p 2 14 Z f (λ_=>AB (f.e Z) (f.e Z) B5) λa f=>Ae 3 14 Z f Z λa f=> ?_
    have⟨bD,bE,bA⟩:=bind_some bA
    refine BR (fuel':=0) (listed':= #[true,true,true,true,true,true,true,true,true,true,true,true,true,true]) (λa=>Fr a 84 [(0,v0),(1,(iv x1)),(9,(iv aV)),(10,(iv bw)),(46,(iv aV)),(47,(iv bw)),(48,(.bool (decide (aV≤bw)))),(49,(.bool (decide (aV≤bw)))),(59,(.bool bD))]) ?_ ?_
    ·intro a f
     refine AN λbF w bG m=>Ab ?_
     rcases Af bA with⟨bH,bA⟩|⟨bH,bA⟩
     ·refine Al f Z bH ?_
      refine An ?_
      refine Ak (Ao ?_)
      refine Aa f Z λa f=>Ai f Z Z AF λa f=>Ac f Z λa f=>Ab ?_
      obtain rfl:=sj bA
      exact⟨_,Z,_,Z,_,(gt bC bG),f.k Z,m⟩
     ·refine Aj f Z bH ?_
      refine AG Z ?_
      obtain rfl:=sj bA
      obtain rfl:=bB _ rfl
      exact⟨_,Z,_,(gt bC bG),f.k Z,m⟩
    ·intro bI
     rcases Af bE with⟨bJ,bE⟩|⟨bJ,bE⟩
     ·refine Ae (hw:=wo f bJ) 4 14 Z f Z λa f=> ?_
      refine Ae (hw:=wo f bJ) 5 14 Z f Z λa f=> ?_
      have⟨bK,bL,bE⟩:=bind_some bE
      refine AW (hw:=wo f bJ) 6 14 0 m aS T28 bL Z f Z Z λbM a bN f=>Ba (hw:=wo f bJ) 7 14 0 aS Pl2 bN bL Z f Z λbO a bP f=> ?_
      subst bP
      refine Ae (hw:=wo f bJ) 8 14 Z f Z λa f=>Ae (hw:=wo f bJ) 9 14 Z f Z λa f=> ?_
      have⟨bQ,bR,bE⟩:=bind_some bE
      refine AW (hw:=wo f bJ) 10 14 0 m aS T28 bR Z f Z Z λbS a bT f=>Ba (hw:=wo f bJ) 11 14 0 aS Pl2 bT bR Z f Z λbU a bV f=> ?_
      subst bV
      have⟨bW,bX,bE⟩:=bind_some bE
      refine Bu (i:=12) 14 Z (by kernel_rfl) Z f (AC f Z Z Z bJ) Z Z call137 (λ_ _ w bY m=>Wk.a m bX) λa f=>q_p 13 14 Z f (λ_=>AS (f.e Z) bJ (f.e Z)) λa f=> ?_
      obtain rfl:=sj bE
      exact bI _ (f.k Z)
     ·refine Am 4 14 Z f bJ λa f=> ?_
      refine Am 5 14 Z f bJ λa f=>Am 6 14 Z f bJ λa f=>Am 7 14 Z f bJ λa f=>Am 8 14 Z f bJ λa f=>Am 9 14 Z f bJ λa f=>Am 10 14 Z f bJ λa f=>Am 11 14 Z f bJ λa f=>Am 12 14 Z f bJ λa f=>q_p 13 14 Z f (λ_=>AR (f.e Z) bJ (f.e Z)) λa f=> ?_
      obtain rfl:=sj bE
      exact bI _ (f.k Z)
   ·rintro a w ⟨bt,rfl,bu,bZ,f,m⟩
    have aS:=od1 bZ aS
    refine Ah (Ag ?_)
    refine Aa f Z λa f=>Aa f Z λa f=>Ai f Z Z Cs λa f=>Ab ?_
    rcases Af aP with⟨b0,aP⟩|⟨b0,aP⟩
    ·refine Al f Z b0 ?_
     refine AG Z ?_
     obtain rfl:=sj aP
     obtain rfl:=aQ _ rfl
     exact⟨_,_,Z,_,aN,(gt aR (gt bq bZ)),f.k Z,m,aS⟩
    ·refine Aj f Z b0 ?_
     refine An ?_
     refine Ah ?_
     refine Bj Az m ?_
     refine p_p 2 Z f (λ_=>AU (f.e Z)) λa f=>p_p 3 Z f (λ_=>AU (f.e Z)) λa f=>Bi 12013 11 (by kernel_rfl) Z ?_
     refine Ae 0 12013 Z f Z λa f=>Ae 1 12013 Z f Z λa f=>Ae 4 12013 Z f Z λa f=>Ae 5 12013 Z f Z λa f=> ?_
     have⟨b1,b2,aP⟩:=bind_some aP
     refine AW 6 12013 0 m aS T28 b2 Z f Z Z λb3 a b4 f=>Ba 7 12013 0 aS Pl2 b4 b2 Z f Z λb5 a b6 f=> ?_
     subst b6
     refine Ae 8 12013 Z f Z λa f=>Ae 9 12013 Z f Z λa f=> ?_
     have⟨b7,b8,aP⟩:=bind_some aP
     refine AW 10 12013 0 m aS T28 b8 Z f Z Z λb9 a ca f=>Ba 11 12013 0 aS Pl2 ca b8 Z f Z λcb a cc f=> ?_
     subst cc
     have⟨cd,ce,aP⟩:=bind_some aP
     refine AW 12 12013 0 m aS T28 ce Z f Z Z λcf a cg f=>AN λch w ci m=> ?_
     have aS:=od1 ci aS
     refine AM 0 m aS Z sizeOf2 f Z Z cg ce Z Z Z λcj w m ck=> ?_
     have⟨cl,cm,aP⟩:=bind_some aP
     refine Bo 0 m ck Z T28 f Z Z Z cm λcn a co f=>AM 0 m ck Z sizeOf2 f Z Z co cm Z Z Z λcp w m cq=>Ay ?_
     refine Aa f Z λa f=>Ai f Z Z As λa f=>Ac f Z λa f=>Ab (Ao ?_)
     refine Aa f Z λa f=>Ai f Z Z AF λa f=>Ac f Z λa f=>Ab ?_
     obtain rfl:=sj aP
     exact⟨_,Z,_,_,_,Z,_,cp,(gt aR (gt bq (gt bZ ci))),f.k Z,m,cq⟩
 ·rintro a w ⟨aE,aF,rfl,aG,aH,cr,f,m,cs⟩
  refine Ag ?_
  refine Aa f Z λa f=>Ac f Z λa f=>Ab ?_
  refine Ar ?_
  obtain rfl:=sj hd
  exact⟨[(iv aF)],f.g Z,f.d,_,[aH],(gt ar cr),m,_,Z,Z,cs⟩
theorem Wk.A0 {v0:Value}{it0:Itm}{x0:LI}{x1 x2 x3:Int}(m:Mem W G w (it0::H))(o0:Ow R0 2 G it0 v0 x0){y:Int×Bool×(LI)}(hd:D.A0 x0 x1 x2 x3=some y):
  Calls prog 139 #[v0,(iv x1),(iv x2),(iv x3)] w (Res W G H (λG' Ho v=>∃i0:Itm,Ho=[i0]∧v= .tuple #[(iv y.1),(.bool y.2.1)]∧Ow R0 2 G' i0 v0 y.2.2)):=by
 refine Au (args:=[v0,(iv x1),(iv x2),(iv x3)]) (N:=168) [.tmp 8,.tmp 9] func139 Z Z (lb Z) Z λa f=> ?_
 unfold D.A0 at hd
 refine Ag ?_
 refine Ac f Z λa f=>Ac f Z λa f=>Ab (Ah ?_)
 refine Bj Az m ?_
 refine p_p 2 Z f (λ_=>AU (f.e Z)) λa f=>p_p 3 Z f (λ_=>AU (f.e Z)) λa f=>Bi 12013 11 (by kernel_rfl) Z ?_
 refine Ae 0 12013 Z f Z λa f=>Ae 1 12013 Z f Z λa f=>Ae 4 12013 Z f Z λa f=>Ae 5 12013 Z f Z λa f=> ?_
 have⟨aa,ab,hd⟩:=bind_some hd
 refine AW 6 12013 0 m o0 T28 ab Z f Z Z λac a ad f=>Ba 7 12013 0 o0 Pl2 ad ab Z f Z λae a af f=> ?_
 subst af
 refine Ae 8 12013 Z f Z λa f=>Ae 9 12013 Z f Z λa f=> ?_
 have⟨ag,ah,hd⟩:=bind_some hd
 refine AW 10 12013 0 m o0 T28 ah Z f Z Z λai a aj f=>Ba 11 12013 0 o0 Pl2 aj ah Z f Z λak a al f=> ?_
 subst al
 have⟨am,an,hd⟩:=bind_some hd
 refine AW 12 12013 0 m o0 T28 an Z f Z Z λao a ap f=>AN λaq w ar m=> ?_
 have o0:=od1 ar o0
 refine AM 0 m o0 Z sizeOf2 f Z Z ap an Z Z Z λau w m av=> ?_
 have⟨aw,ax,hd⟩:=bind_some hd
 refine Bo 0 m av Z T28 f Z Z Z ax λay a az f=>AM 0 m av Z sizeOf2 f Z Z az ax Z Z Z λaA w m aB=>Ay ?_
 refine Aa f Z λa f=>Ai f Z Z As λa f=>Aa f Z λa f=>Ai f Z Z AF λa f=>Ac f Z λa f=>Ac f Z λa f=>Ab (Ah ?_)
 have⟨aC,aD,hd⟩:=bind_some hd
 refine AJ (λa w=>∃aE:Int,aE=aC∧∃(aF:GH),GLe aq aF∧Fr a 168 [(0,v0),(1,(iv x1)),(10,(iv aE)),(11,(iv (i64.wrap (x2-1))))]∧Mem W aF w (aA::H)) ?_ ?_
 ·refine Ak ?_
  refine AK (λaG a w=>∃aH:Int,aH=aG∧∃(aI:GH),GLe aq aI∧Fr a 168 [(0,v0),(1,(iv x1)),(10,(iv aH)),(11,(iv (i64.wrap (x2-1))))]∧Mem W aI w (aA::H)) aD ⟨_,Z,_,gr,f.k Z,m⟩ ?_
  clear aD f m
  rintro aG aJ aK aL a w ⟨aH,rfl,aI,aM,f,m⟩
  have aB:=od1 aM aB
  refine Ah (Ah ?_)
  refine A4 14 Az (by kernel_rfl) m ?_
  refine Ae 0 14 Z f Z λa f=>Ae 1 14 Z f Z λa f=>q_p 2 14 Z f (λ_=>AB (f.e Z) (f.e Z) B5) λa f=>Ae 3 14 Z f Z λa f=> ?_
  have⟨aN,aO,aK⟩:=bind_some aK
  refine BR (fuel':=0) (listed':= #[true,true,true,true,true,true,true,true,true,true,true,true,true,true]) (λa=>Fr a 168 [(0,v0),(1,(iv x1)),(10,(iv aH)),(11,(iv (i64.wrap (x2-1)))),(30,(iv aH)),(31,(iv (i64.wrap (x2-1)))),(32,(.bool (decide (aH≤(i64.wrap (x2-1)))))),(33,(.bool (decide (aH≤(i64.wrap (x2-1)))))),(43,(.bool aN))]) ?_ ?_
  ·intro a f
   refine AN λaP w aQ m=>Ab ?_
   rcases Af aK with⟨aR,aK⟩|⟨aR,aK⟩
   ·refine Al f Z aR ?_
    refine An ?_
    refine Ak (Ao ?_)
    refine Aa f Z λa f=>Ai f Z Z As λa f=>Ac f Z λa f=>Ab ?_
    obtain rfl:=sj aK
    exact⟨_,Z,_,Z,_,(gt aM aQ),f.k Z,m⟩
   ·refine Aj f Z aR ?_
    refine AG Z ?_
    obtain rfl:=sj aK
    obtain rfl:=aL _ rfl
    exact⟨_,Z,_,(gt aM aQ),f.k Z,m⟩
  ·intro aS
   rcases Af aO with⟨aT,aO⟩|⟨aT,aO⟩
   ·refine Ae (hw:=wo f aT) 4 14 Z f Z λa f=> ?_
    refine Ae (hw:=wo f aT) 5 14 Z f Z λa f=> ?_
    have⟨aU,aV,aO⟩:=bind_some aO
    refine AW (hw:=wo f aT) 6 14 0 m aB T28 aV Z f Z Z λaW a aX f=>Ba (hw:=wo f aT) 7 14 0 aB Pl2 aX aV Z f Z λaY a aZ f=> ?_
    subst aZ
    refine Ae (hw:=wo f aT) 8 14 Z f Z λa f=>Ae (hw:=wo f aT) 9 14 Z f Z λa f=> ?_
    have⟨a0,a1,aO⟩:=bind_some aO
    refine AW (hw:=wo f aT) 10 14 0 m aB T28 a1 Z f Z Z λa2 a a3 f=>Ba (hw:=wo f aT) 11 14 0 aB Pl2 a3 a1 Z f Z λa4 a a5 f=> ?_
    subst a5
    have⟨a6,a7,aO⟩:=bind_some aO
    refine Bu (i:=12) 14 Z (by kernel_rfl) Z f (AC f Z Z Z aT) Z Z call137 (λ_ _ w a8 m=>Wk.a m a7) λa f=>q_p 13 14 Z f (λ_=>AS (f.e Z) aT (f.e Z)) λa f=> ?_
    obtain rfl:=sj aO
    exact aS _ (f.k Z)
   ·refine Am 4 14 Z f aT λa f=> ?_
    refine Am 5 14 Z f aT λa f=>Am 6 14 Z f aT λa f=>Am 7 14 Z f aT λa f=>Am 8 14 Z f aT λa f=>Am 9 14 Z f aT λa f=>Am 10 14 Z f aT λa f=>Am 11 14 Z f aT λa f=>Am 12 14 Z f aT λa f=>q_p 13 14 Z f (λ_=>AR (f.e Z) aT (f.e Z)) λa f=> ?_
    obtain rfl:=sj aO
    exact aS _ (f.k Z)
 ·rintro a w ⟨aE,rfl,aF,a9,f,m⟩
  have aB:=od1 a9 aB
  refine Ah ?_
  have⟨ba,bb,hd⟩:=bind_some hd
  refine AJ (λa w=>∃bc:Int,bc=ba∧∃(bd:GH),GLe aF bd∧Fr a 168 [(0,v0),(1,(iv x1)),(10,(iv aE)),(11,(iv bc))]∧Mem W bd w (aA::H)) ?_ ?_
  ·refine Ak ?_
   refine AK (λbe a w=>∃bf:Int,bf=be∧∃(bg:GH),GLe aF bg∧Fr a 168 [(0,v0),(1,(iv x1)),(10,(iv aE)),(11,(iv bf))]∧Mem W bg w (aA::H)) bb ⟨_,Z,_,gr,f.k Z,m⟩ ?_
   clear bb f m
   rintro be bh bi bj a w ⟨bf,rfl,bg,bk,f,m⟩
   have aB:=od1 bk aB
   refine Ah (Ah ?_)
   refine A4 15 Az (by kernel_rfl) m ?_
   refine Ae 0 15 Z f Z λa f=>Ae 1 15 Z f Z λa f=>q_p 2 15 Z f (λ_=>AB (f.e Z) (f.e Z) B5) λa f=>Ae 3 15 Z f Z λa f=> ?_
   have⟨bl,bm,bi⟩:=bind_some bi
   refine BR (fuel':=0) (listed':= #[true,true,true,true,true,true,true,true,true,true,true,true,true,true,true]) (λa=>Fr a 168 [(0,v0),(1,(iv x1)),(10,(iv aE)),(11,(iv bf)),(46,(iv aE)),(47,(iv bf)),(48,(.bool (decide (aE≤bf)))),(49,(.bool (decide (aE≤bf)))),(60,(.bool bl))]) ?_ ?_
   ·intro a f
    refine AN λbn w bo m=>Ab ?_
    rcases Af bi with⟨bp,bi⟩|⟨bp,bi⟩
    ·refine Al f Z bp ?_
     refine An ?_
     refine Ak (Ao ?_)
     refine Aa f Z λa f=>Ai f Z Z AF λa f=>Ac f Z λa f=>Ab ?_
     obtain rfl:=sj bi
     exact⟨_,Z,_,Z,_,(gt bk bo),f.k Z,m⟩
    ·refine Aj f Z bp ?_
     refine AG Z ?_
     obtain rfl:=sj bi
     obtain rfl:=bj _ rfl
     exact⟨_,Z,_,(gt bk bo),f.k Z,m⟩
   ·intro bq
    rcases Af bm with⟨br,bm⟩|⟨br,bm⟩
    ·refine Ae (hw:=wo f br) 4 15 Z f Z λa f=> ?_
     refine Ae (hw:=wo f br) 5 15 Z f Z λa f=> ?_
     have⟨bs,bt,bm⟩:=bind_some bm
     refine AW (hw:=wo f br) 6 15 0 m aB T28 bt Z f Z Z λbu a bv f=>Ba (hw:=wo f br) 7 15 0 aB Pl2 bv bt Z f Z λbw a bx f=> ?_
     subst bx
     refine Ae (hw:=wo f br) 8 15 Z f Z λa f=>Ae (hw:=wo f br) 9 15 Z f Z λa f=> ?_
     have⟨bz,bA,bm⟩:=bind_some bm
     refine AW (hw:=wo f br) 10 15 0 m aB T28 bA Z f Z Z λbB a bC f=>Ba (hw:=wo f br) 11 15 0 aB Pl2 bC bA Z f Z λbD a bE f=> ?_
     subst bE
     have⟨bF,bG,bm⟩:=bind_some bm
     refine Bu (i:=12) 15 Z (by kernel_rfl) Z f (AC f Z Z Z br) Z Z call137 (λ_ _ w bH m=>Wk.a m bG) λa f=>q_p (hw:=wo f br) 13 15 Z f (λ_=>Bg (f.e Z)) λa f=>q_p 14 15 Z f (λ_=>AS (f.e Z) br (f.e Z)) λa f=> ?_
     obtain rfl:=sj bm
     exact bq _ (f.k Z)
    ·refine Am 4 15 Z f br λa f=> ?_
     refine Am 5 15 Z f br λa f=>Am 6 15 Z f br λa f=>Am 7 15 Z f br λa f=>Am 8 15 Z f br λa f=>Am 9 15 Z f br λa f=>Am 10 15 Z f br λa f=>Am 11 15 Z f br λa f=>Am 12 15 Z f br λa f=>Am 13 15 Z f br λa f=>q_p 14 15 Z f (λ_=>AR (f.e Z) br (f.e Z)) λa f=> ?_
     obtain rfl:=sj bm
     exact bq _ (f.k Z)
  ·rintro a w ⟨bc,rfl,bd,bI,f,m⟩
   have aB:=od1 bI aB
   refine Ah (Ag ?_)
   refine Aa f Z λa f=>Aa f Z λa f=>Ai f Z Z Cs λa f=>Ab ?_
   rcases Af hd with⟨bJ,hd⟩|⟨bJ,hd⟩
   ·refine Al f Z bJ ?_
    refine Ah ?_
    refine Bj Az m ?_
    refine p_p 2 Z f (λ_=>AU (f.e Z)) λa f=>p_p 3 Z f (λ_=>AU (f.e Z)) λa f=>Bi 12013 11 (by kernel_rfl) Z ?_
    refine Ae 0 12013 Z f Z λa f=>Ae 1 12013 Z f Z λa f=>Ae 4 12013 Z f Z λa f=>Ae 5 12013 Z f Z λa f=> ?_
    have⟨bK,bL,hd⟩:=bind_some hd
    refine AW 6 12013 0 m aB T28 bL Z f Z Z λbM a bN f=>Ba 7 12013 0 aB Pl2 bN bL Z f Z λbO a bP f=> ?_
    subst bP
    refine Ae 8 12013 Z f Z λa f=>Ae 9 12013 Z f Z λa f=> ?_
    have⟨bQ,bR,hd⟩:=bind_some hd
    refine AW 10 12013 0 m aB T28 bR Z f Z Z λbS a bT f=>Ba 11 12013 0 aB Pl2 bT bR Z f Z λbU a bV f=> ?_
    subst bV
    have⟨bW,bX,hd⟩:=bind_some hd
    refine AW 12 12013 0 m aB T28 bX Z f Z Z λbY a bZ f=>AN λb0 w b1 m=> ?_
    have aB:=od1 b1 aB
    refine AM 0 m aB Z sizeOf2 f Z Z bZ bX Z Z Z λb2 w m b3=> ?_
    have⟨b4,b5,hd⟩:=bind_some hd
    refine Bo 0 m b3 Z T28 f Z Z Z b5 λb6 a b7 f=>AM 0 m b3 Z sizeOf2 f Z Z b7 b5 Z Z Z λb8 w m b9=>Ay ?_
    refine Aa f Z λa f=>Ac f Z λa f=>Ac f Z λa f=>Ab ?_
    refine Ar ?_
    obtain rfl:=sj hd
    exact⟨[(iv bc),(.bool true)],⟨f.get _ _ Z,f.get _ _ Z,trivial⟩,f.d,_,[b8],(gt ar (gt a9 (gt bI b1))),m,_,Z,Z,b9⟩
   ·refine Aj f Z bJ ?_
    refine An ?_
    refine Ah ?_
    refine Bj Az m ?_
    refine p_p 2 Z f (λ_=>AU (f.e Z)) λa f=>p_p 3 Z f (λ_=>AU (f.e Z)) λa f=>Bi 12013 11 (by kernel_rfl) Z ?_
    refine Ae 0 12013 Z f Z λa f=>Ae 1 12013 Z f Z λa f=>Ae 4 12013 Z f Z λa f=>Ae 5 12013 Z f Z λa f=> ?_
    have⟨ca,cb,hd⟩:=bind_some hd
    refine AW 6 12013 0 m aB T28 cb Z f Z Z λcc a cd f=>Ba 7 12013 0 aB Pl2 cd cb Z f Z λce a cf f=> ?_
    subst cf
    refine Ae 8 12013 Z f Z λa f=>Ae 9 12013 Z f Z λa f=> ?_
    have⟨cg,ch,hd⟩:=bind_some hd
    refine AW 10 12013 0 m aB T28 ch Z f Z Z λci a cj f=>Ba 11 12013 0 aB Pl2 cj ch Z f Z λck a cl f=> ?_
    subst cl
    have⟨cm,cn,hd⟩:=bind_some hd
    refine AW 12 12013 0 m aB T28 cn Z f Z Z λco a cp f=>AN λcq w cr m=> ?_
    have aB:=od1 cr aB
    refine AM 0 m aB Z sizeOf2 f Z Z cp cn Z Z Z λcs w m ct=> ?_
    have⟨cu,cv,hd⟩:=bind_some hd
    refine Bo 0 m ct Z T28 f Z Z Z cv λcw a cx f=>AM 0 m ct Z sizeOf2 f Z Z cx cv Z Z Z λcy w m cz=>Ay ?_
    refine Aa f Z λa f=>Ai f Z Z As λa f=>Ac f Z λa f=>Ay ?_
    refine Aa f Z λa f=>Ai f Z Z AF λa f=>Ac f Z λa f=>Ab (Ah ?_)
    have⟨cA,cB,hd⟩:=bind_some hd
    refine AJ (λa w=>∃cC:LI,∃cD:Int,(cC,cD)=cA∧∃(cE:GH) (cF:Itm),GLe cq cE∧Fr a 168 [(0,v0),(1,(iv x1)),(11,(iv cD))]∧Mem W cE w (cF::H)∧Ow R0 2 cE cF v0 cC) ?_ ?_
    ·refine Ak ?_
     refine AK (λcG a w=>∃cH:LI,∃cI:Int,∃cJ:Int,(cH,cI,cJ)=cG∧∃(cK:GH) (cL:Itm),GLe cq cK∧Fr a 168 [(0,v0),(1,(iv x1)),(10,(iv cI)),(11,(iv cJ))]∧Mem W cK w (cL::H)∧Ow R0 2 cK cL v0 cH) cB ⟨_,_,_,Z,_,cy,gr,f.k Z,m,cz⟩ ?_
     clear cB f m
     rintro cG cM cN cO a w ⟨cH,cI,cJ,rfl,cK,cL,cP,f,m,cQ⟩
     refine Ak (Ah ?_)
     have⟨cR,cS,cN⟩:=bind_some cN
     refine AJ (λa w=>∃cT:Int,cT=cR∧∃(cU:GH),GLe cK cU∧Fr a 168 [(0,v0),(1,(iv x1)),(10,(iv cT)),(11,(iv cJ))]∧Mem W cU w (cL::H)) ?_ ?_
     ·refine Ak ?_
      refine AK (λcV a w=>∃cW:Int,cW=cV∧∃(cX:GH),GLe cK cX∧Fr a 168 [(0,v0),(1,(iv x1)),(10,(iv cW)),(11,(iv cJ))]∧Mem W cX w (cL::H)) cS ⟨_,Z,_,gr,f.k Z,m⟩ ?_
      clear cS f m
      rintro cV cY cZ c0 a w ⟨cW,rfl,cX,c1,f,m⟩
      have cQ:=od1 c1 cQ
      refine Ah (Ah ?_)
      refine A4 14 Az (by kernel_rfl) m ?_
      refine Ae 0 14 Z f Z λa f=>Ae 1 14 Z f Z λa f=>q_p 2 14 Z f (λ_=>AB (f.e Z) (f.e Z) B5) λa f=>Ae 3 14 Z f Z λa f=> ?_
      have⟨c2,c3,cZ⟩:=bind_some cZ
      refine BR (fuel':=0) (listed':= #[true,true,true,true,true,true,true,true,true,true,true,true,true,true]) (λa=>Fr a 168 [(0,v0),(1,(iv x1)),(10,(iv cW)),(11,(iv cJ)),(99,(iv cW)),(100,(iv cJ)),(101,(.bool (decide (cW≤cJ)))),(102,(.bool (decide (cW≤cJ)))),(112,(.bool c2))]) ?_ ?_
      ·intro a f
       refine AN λc4 w c5 m=>Ab ?_
       rcases Af cZ with⟨c6,cZ⟩|⟨c6,cZ⟩
       ·refine Al f Z c6 ?_
        refine An ?_
        refine Ak (Ao ?_)
        refine Aa f Z λa f=>Ai f Z Z As λa f=>Ac f Z λa f=>Ab ?_
        obtain rfl:=sj cZ
        exact⟨_,Z,_,Z,_,(gt c1 c5),f.k Z,m⟩
       ·refine Aj f Z c6 ?_
        refine AG Z ?_
        obtain rfl:=sj cZ
        obtain rfl:=c0 _ rfl
        exact⟨_,Z,_,(gt c1 c5),f.k Z,m⟩
      ·intro c7
       rcases Af c3 with⟨c8,c3⟩|⟨c8,c3⟩
       ·refine Ae (hw:=wo f c8) 4 14 Z f Z λa f=> ?_
        refine Ae (hw:=wo f c8) 5 14 Z f Z λa f=> ?_
        have⟨c9,da,c3⟩:=bind_some c3
        refine AW (hw:=wo f c8) 6 14 0 m cQ T28 da Z f Z Z λdb a dc f=>Ba (hw:=wo f c8) 7 14 0 cQ Pl2 dc da Z f Z λdd a de f=> ?_
        subst de
        refine Ae (hw:=wo f c8) 8 14 Z f Z λa f=>Ae (hw:=wo f c8) 9 14 Z f Z λa f=> ?_
        have⟨df,dg,c3⟩:=bind_some c3
        refine AW (hw:=wo f c8) 10 14 0 m cQ T28 dg Z f Z Z λdh a di f=>Ba (hw:=wo f c8) 11 14 0 cQ Pl2 di dg Z f Z λdj a dk f=> ?_
        subst dk
        have⟨dl,dm,c3⟩:=bind_some c3
        refine Bu (i:=12) 14 Z (by kernel_rfl) Z f (AC f Z Z Z c8) Z Z call137 (λ_ _ w dn m=>Wk.a m dm) λa f=>q_p 13 14 Z f (λ_=>AS (f.e Z) c8 (f.e Z)) λa f=> ?_
        obtain rfl:=sj c3
        exact c7 _ (f.k Z)
       ·refine Am 4 14 Z f c8 λa f=> ?_
        refine Am 5 14 Z f c8 λa f=>Am 6 14 Z f c8 λa f=>Am 7 14 Z f c8 λa f=>Am 8 14 Z f c8 λa f=>Am 9 14 Z f c8 λa f=>Am 10 14 Z f c8 λa f=>Am 11 14 Z f c8 λa f=>Am 12 14 Z f c8 λa f=>q_p 13 14 Z f (λ_=>AR (f.e Z) c8 (f.e Z)) λa f=> ?_
        obtain rfl:=sj c3
        exact c7 _ (f.k Z)
     ·rintro a w ⟨cT,rfl,cU,dp,f,m⟩
      have cQ:=od1 dp cQ
      refine Ah ?_
      have⟨dq,dr,cN⟩:=bind_some cN
      refine AJ (λa w=>∃ds:Int,ds=dq∧∃(dt:GH),GLe cU dt∧Fr a 168 [(0,v0),(1,(iv x1)),(10,(iv cT)),(11,(iv ds))]∧Mem W dt w (cL::H)) ?_ ?_
      ·refine Ak ?_
       refine AK (λdu a w=>∃dv:Int,dv=du∧∃(dw:GH),GLe cU dw∧Fr a 168 [(0,v0),(1,(iv x1)),(10,(iv cT)),(11,(iv dv))]∧Mem W dw w (cL::H)) dr ⟨_,Z,_,gr,f.k Z,m⟩ ?_
       clear dr f m
       rintro du dx dy dz a w ⟨dv,rfl,dw,dA,f,m⟩
       have cQ:=od1 dA cQ
       refine Ah (Ah ?_)
       refine A4 15 Az (by kernel_rfl) m ?_
       refine Ae 0 15 Z f Z λa f=>Ae 1 15 Z f Z λa f=>q_p 2 15 Z f (λ_=>AB (f.e Z) (f.e Z) B5) λa f=>Ae 3 15 Z f Z λa f=> ?_
       have⟨dB,dC,dy⟩:=bind_some dy
       refine BR (fuel':=0) (listed':= #[true,true,true,true,true,true,true,true,true,true,true,true,true,true,true]) (λa=>Fr a 168 [(0,v0),(1,(iv x1)),(10,(iv cT)),(11,(iv dv)),(115,(iv cT)),(116,(iv dv)),(117,(.bool (decide (cT≤dv)))),(118,(.bool (decide (cT≤dv)))),(129,(.bool dB))]) ?_ ?_
       ·intro a f
        refine AN λdD w dE m=>Ab ?_
        rcases Af dy with⟨dF,dy⟩|⟨dF,dy⟩
        ·refine Al f Z dF ?_
         refine An ?_
         refine Ak (Ao ?_)
         refine Aa f Z λa f=>Ai f Z Z AF λa f=>Ac f Z λa f=>Ab ?_
         obtain rfl:=sj dy
         exact⟨_,Z,_,Z,_,(gt dA dE),f.k Z,m⟩
        ·refine Aj f Z dF ?_
         refine AG Z ?_
         obtain rfl:=sj dy
         obtain rfl:=dz _ rfl
         exact⟨_,Z,_,(gt dA dE),f.k Z,m⟩
       ·intro dG
        rcases Af dC with⟨dH,dC⟩|⟨dH,dC⟩
        ·refine Ae (hw:=wo f dH) 4 15 Z f Z λa f=> ?_
         refine Ae (hw:=wo f dH) 5 15 Z f Z λa f=> ?_
         have⟨dI,dJ,dC⟩:=bind_some dC
         refine AW (hw:=wo f dH) 6 15 0 m cQ T28 dJ Z f Z Z λdK a dL f=>Ba (hw:=wo f dH) 7 15 0 cQ Pl2 dL dJ Z f Z λdM a dN f=> ?_
         subst dN
         refine Ae (hw:=wo f dH) 8 15 Z f Z λa f=>Ae (hw:=wo f dH) 9 15 Z f Z λa f=> ?_
         have⟨dO,dP,dC⟩:=bind_some dC
         refine AW (hw:=wo f dH) 10 15 0 m cQ T28 dP Z f Z Z λdQ a dR f=>Ba (hw:=wo f dH) 11 15 0 cQ Pl2 dR dP Z f Z λdS a dT f=> ?_
         subst dT
         have⟨dU,dV,dC⟩:=bind_some dC
         refine Bu (i:=12) 15 Z (by kernel_rfl) Z f (AC f Z Z Z dH) Z Z call137 (λ_ _ w dW m=>Wk.a m dV) λa f=>q_p (hw:=wo f dH) 13 15 Z f (λ_=>Bg (f.e Z)) λa f=>q_p 14 15 Z f (λ_=>AS (f.e Z) dH (f.e Z)) λa f=> ?_
         obtain rfl:=sj dC
         exact dG _ (f.k Z)
        ·refine Am 4 15 Z f dH λa f=> ?_
         refine Am 5 15 Z f dH λa f=>Am 6 15 Z f dH λa f=>Am 7 15 Z f dH λa f=>Am 8 15 Z f dH λa f=>Am 9 15 Z f dH λa f=>Am 10 15 Z f dH λa f=>Am 11 15 Z f dH λa f=>Am 12 15 Z f dH λa f=>Am 13 15 Z f dH λa f=>q_p 14 15 Z f (λ_=>AR (f.e Z) dH (f.e Z)) λa f=> ?_
         obtain rfl:=sj dC
         exact dG _ (f.k Z)
      ·rintro a w ⟨ds,rfl,dt,dX,f,m⟩
       have cQ:=od1 dX cQ
       refine Ah (Ag ?_)
       refine Aa f Z λa f=>Aa f Z λa f=>Ai f Z Z Cs λa f=>Ab ?_
       rcases Af cN with⟨dY,cN⟩|⟨dY,cN⟩
       ·refine Al f Z dY ?_
        refine AG Z ?_
        obtain rfl:=sj cN
        obtain rfl:=cO _ rfl
        exact⟨_,_,Z,_,cL,(gt cP (gt dp dX)),f.k Z,m,cQ⟩
       ·refine Aj f Z dY ?_
        refine An ?_
        refine Ah ?_
        refine Bj Az m ?_
        refine p_p 2 Z f (λ_=>AU (f.e Z)) λa f=>p_p 3 Z f (λ_=>AU (f.e Z)) λa f=>Bi 12013 11 (by kernel_rfl) Z ?_
        refine Ae 0 12013 Z f Z λa f=>Ae 1 12013 Z f Z λa f=>Ae 4 12013 Z f Z λa f=>Ae 5 12013 Z f Z λa f=> ?_
        have⟨dZ,d0,cN⟩:=bind_some cN
        refine AW 6 12013 0 m cQ T28 d0 Z f Z Z λd1 a d2 f=>Ba 7 12013 0 cQ Pl2 d2 d0 Z f Z λd3 a d4 f=> ?_
        subst d4
        refine Ae 8 12013 Z f Z λa f=>Ae 9 12013 Z f Z λa f=> ?_
        have⟨d5,d6,cN⟩:=bind_some cN
        refine AW 10 12013 0 m cQ T28 d6 Z f Z Z λd7 a d8 f=>Ba 11 12013 0 cQ Pl2 d8 d6 Z f Z λd9 a ea f=> ?_
        subst ea
        have⟨eb,ec,cN⟩:=bind_some cN
        refine AW 12 12013 0 m cQ T28 ec Z f Z Z λed a ee f=>AN λef w eg m=> ?_
        have cQ:=od1 eg cQ
        refine AM 0 m cQ Z sizeOf2 f Z Z ee ec Z Z Z λeh w m ei=> ?_
        have⟨ej,ek,cN⟩:=bind_some cN
        refine Bo 0 m ei Z T28 f Z Z Z ek λel a em f=>AM 0 m ei Z sizeOf2 f Z Z em ek Z Z Z λen w m eo=>Ay ?_
        refine Aa f Z λa f=>Ai f Z Z As λa f=>Ac f Z λa f=>Ab (Ao ?_)
        refine Aa f Z λa f=>Ai f Z Z AF λa f=>Ac f Z λa f=>Ab ?_
        obtain rfl:=sj cN
        exact⟨_,Z,_,_,_,Z,_,en,(gt cP (gt dp (gt dX eg))),f.k Z,m,eo⟩
    ·rintro a w ⟨cC,cD,rfl,cE,cF,ep,f,m,eq⟩
     refine Ah ?_
     refine Bj Az m ?_
     refine p_p 2 Z f (λ_=>AU (f.e Z)) λa f=>p_p 3 Z f (λ_=>AU (f.e Z)) λa f=>Bi 12013 11 (by kernel_rfl) Z ?_
     refine Ae 0 12013 Z f Z λa f=>Ae 1 12013 Z f Z λa f=>Ae 4 12013 Z f Z λa f=>Ae 5 12013 Z f Z λa f=> ?_
     have⟨er,es,hd⟩:=bind_some hd
     refine AW 6 12013 0 m eq T28 es Z f Z Z λet a eu f=>Ba 7 12013 0 eq Pl2 eu es Z f Z λev a ew f=> ?_
     subst ew
     refine Ae 8 12013 Z f Z λa f=>Ae 9 12013 Z f Z λa f=> ?_
     have⟨ex,ey,hd⟩:=bind_some hd
     refine AW 10 12013 0 m eq T28 ey Z f Z Z λez a eA f=>Ba 11 12013 0 eq Pl2 eA ey Z f Z λeB a eC f=> ?_
     subst eC
     have⟨eD,eE,hd⟩:=bind_some hd
     refine AW 12 12013 0 m eq T28 eE Z f Z Z λeF a eG f=>AN λeH w eI m=> ?_
     have eq:=od1 eI eq
     refine AM 0 m eq Z sizeOf2 f Z Z eG eE Z Z Z λeJ w m eK=> ?_
     have⟨eL,eM,hd⟩:=bind_some hd
     refine Bo 0 m eK Z T28 f Z Z Z eM λeN a eO f=>AM 0 m eK Z sizeOf2 f Z Z eO eM Z Z Z λeP w m eQ=>Ay ?_
     refine Aa f Z λa f=>Ac f Z λa f=>Ac f Z λa f=>Ab ?_
     refine Ar ?_
     obtain rfl:=sj hd
     exact⟨[(iv cD),(.bool false)],⟨f.get _ _ Z,f.get _ _ Z,trivial⟩,f.d,_,[eP],(gt ar (gt a9 (gt bI (gt cr (gt ep eI))))),m,_,Z,Z,eQ⟩
theorem Wk.C {W:World}(n:Nat):∀{w:World} {G:GH} {H:List Itm} {v0:Value} {it0:Itm} {x0:LI} {x1 x2 x3:Int} (m:Mem W G w (it0::H)) (o0:Ow R0 2 G it0 v0 x0) {y:(LI)} (hd:D.C n x0 x1 x2 x3=some y),
  Calls prog 123 #[v0,(iv x1),(iv x2),(iv x3)] w (Res W G H (λG' Ho _=>∃i0:Itm,Ho=[i0]∧Ow R0 2 G' i0 v0 y)):=by
 induction n with
 |zero=>intros;rename_i hd;simp[D.C] at hd
 |succ fuel ih=>
  intro w G H v0 it0 x0 x1 x2 x3 m o0 y hd
  refine Au (args:=[v0,(iv x1),(iv x2),(iv x3)]) (N:=134) [] func123 Z Z (lb Z) Z λa f=> ?_
  unfold D.C at hd
  refine Ag ?_
  refine Ac f Z λa f=>Ay ?_
  refine Ac f Z λa f=>Ab ?_
  have⟨aa,ab,hd⟩:=bind_some hd
  refine Ak ?_
  refine AK (λac a w=>∃ad:LI,∃ae:Int,∃af:Int,∃ag:Int,∃ah:Bool,∃ai:Bool,(ad,ae,af,ag,ah,ai)=ac∧∃(aj:GH) (ak:Itm),GLe G aj∧Fr a 134 [(0,v0),(1,(iv ae)),(2,(iv af)),(3,(iv ag)),(8,(.bool ah)),(9,(.bool ai))]∧Mem W aj w (ak::H)∧Ow R0 2 aj ak v0 ad) ab ⟨_,_,_,_,_,_,Z,_,it0,gr,f.k Z,m,o0⟩ ?_
  clear ab f m
  rintro ac al am an a w ⟨ad,ae,af,ag,ah,ai,rfl,aj,ak,ao,f,m,ap⟩
  refine Ak (Ag ?_)
  refine Aa f Z λa f=>Aa f Z λa f=>Ai f Z Z AF λa f=>Ac f Z λa f=>Ab (Ah (Ag ?_))
  refine Aa f Z λa f=>Ai f Z Z B5 λa f=>Ab ?_
  rcases Af am with⟨aq,am⟩|⟨aq,am⟩
  ·refine Al f Z aq ?_
   refine Ag ?_
   refine Aa f Z λa f=>Aa f Z λa f=>Aa f Z λa f=> ?_
   have⟨ar,au,am⟩:=bind_some am
   refine AT f Z call131 (Wk.o0 m ap au) λav aw ax w ay m az a f=> ?_
   obtain⟨aA,rfl,aB⟩:=az
   refine Ab ?_
   refine Ar ?_
   obtain rfl:=sj am
   obtain rfl:=an _ rfl
   obtain rfl:=sj hd
   exact⟨[],trivial,f.d,_,[aA],(gt ao ay),m,_,Z,aB⟩
  ·refine Aj f Z aq ?_
   refine An ?_
   refine Ah (Ag ?_)
   refine Aa f Z λa f=>Ai f Z Z BT λa f=>Ab ?_
   rcases Af am with⟨aC,am⟩|⟨aC,am⟩
   ·refine Al f Z aC ?_
    refine Ag ?_
    refine Aa f Z λa f=>Aa f Z λa f=>Aa f Z λa f=> ?_
    have⟨aD,aE,am⟩:=bind_some am
    refine AT f Z call132 (Wk.n1 m ap aE) λaF aG aH w aI m aJ a f=> ?_
    obtain⟨aK,rfl,aL⟩:=aJ
    refine Ab ?_
    refine Ar ?_
    obtain rfl:=sj am
    obtain rfl:=an _ rfl
    obtain rfl:=sj hd
    exact⟨[],trivial,f.d,_,[aK],(gt ao aI),m,_,Z,aL⟩
   ·refine Aj f Z aC ?_
    refine An ?_
    refine Ah (Ag ?_)
    refine Aa f Z λa f=>l_o f (Bg (f.e Z)) λa f=>Ab ?_
    have⟨aM,aN,am⟩:=bind_some am
    refine AJ (λa w=>∃aO:LI,∃aP:Int,(aO,aP)=aM∧∃(aQ:GH) (aR:Itm),GLe aj aQ∧Fr a 134 [(0,v0),(1,(iv ae)),(2,(iv af)),(3,(iv aP)),(8,(.bool ah)),(9,(.bool ai)),(10,(iv (i64.wrap (af-ae))))]∧Mem W aQ w (aR::H)∧Ow R0 2 aQ aR v0 aO) ?_ ?_
    ·rcases Af aN with⟨aS,aN⟩|⟨aS,aN⟩
     ·refine Al f Z aS ?_
      refine Ag ?_
      refine Aa f Z λa f=>Aa f Z λa f=>Aa f Z λa f=> ?_
      have⟨aT,aU,aN⟩:=bind_some aN
      refine AT f Z call133 (Wk.S0 m ap aU) λaV aW aX w aY m aZ a f=> ?_
      obtain⟨a0,rfl,a1⟩:=aZ
      refine Ab (Ao ?_)
      refine Aa f Z λa f=>Ai f Z Z AF λa f=>Ac f Z λa f=>Ab ?_
      obtain rfl:=sj aN
      exact⟨_,_,Z,_,a0,aY,f.k Z,m,a1⟩
     ·refine Aj f Z aS ?_
      refine An ?_
      obtain rfl:=sj aN
      exact⟨_,_,Z,_,ak,gr,f.k Z,m,ap⟩
    ·rintro a w ⟨aO,aP,rfl,aQ,aR,a2,f,m,a3⟩
     refine Ag ?_
     refine Aa f Z λa f=>Aa f Z λa f=>Aa f Z λa f=> ?_
     have⟨a4,a5,am⟩:=bind_some am
     refine AT f Z call134 (Wk.i0 m a3 a5) λa6 a7 a8 w a9 m ba a f=> ?_
     obtain⟨bb,rfl,rfl,bc⟩:=ba
     refine Aa f Z λa f=>l_o f (AI (f.e Z) Z) λa f=>l_o f (AI (f.e Z) Z) λa f=>Ac f Z λa f=>Ac f Z λa f=>Ab (Ah (Ag ?_))
     refine Aa f Z λa f=>Ai f Z Z BT λa f=>Ab ?_
     have⟨bd,be,am⟩:=bind_some am
     refine AJ (λa w=>∃bf:LI,∃bg:Int,∃bh:Int,(bf,bg,bh)=bd∧∃(bi:GH) (bj:Itm),GLe a7 bi∧Fr a 134 [(0,v0),(1,(iv ae)),(2,(iv af)),(3,(iv aP)),(8,(.bool ah)),(9,(.bool ai)),(10,(iv (i64.wrap (af-ae)))),(11,(iv bg)),(12,(iv bh))]∧Mem W bi w (bj::H)∧Ow R0 2 bi bj v0 bf) ?_ ?_
     ·rcases Af be with⟨bk,be⟩|⟨bk,be⟩
      ·refine Al f Z bk ?_
       refine Ag ?_
       refine Aa f Z λa f=>Aa f Z λa f=>Aa f Z λa f=> ?_
       have⟨bl,bm,be⟩:=bind_some be
       refine AT f Z call135 (Wk.Q0 m bc bm) λbn bo bp w bq m br a f=> ?_
       obtain⟨bs,rfl,bt⟩:=br
       refine Ay ?_
       refine Aa f Z λa f=>Ai f Z Z AF λa f=>Aa f Z λa f=>Aa f Z λa f=>Ai f Z Z AF λa f=>Ai f Z Z AF λa f=>Ac f Z λa f=>Ab (Ao ?_)
       refine Ac f Z λa f=>Ab ?_
       obtain rfl:=sj be
       exact⟨_,_,_,Z,_,bs,bq,f.k Z,m,bt⟩
      ·refine Aj f Z bk ?_
       refine An ?_
       obtain rfl:=sj be
       exact⟨_,_,_,Z,_,bb,gr,f.k Z,m,bc⟩
     ·rintro a w ⟨bf,bg,bh,rfl,bi,bj,bu,f,m,bv⟩
      refine Ah (Ag ?_)
      refine Aa f Z λa f=>Aa f Z λa f=> ?_
      refine Br 2 (λa w=>∃bw,GLe bi bw∧Mem W bw w (bj::H)∧Fr a 134 [(0,v0),(1,(iv ae)),(2,(iv af)),(3,(iv aP)),(8,(.bool ah)),(9,(.bool ai)),(10,(iv (i64.wrap (af-ae)))),(11,(iv bg)),(12,(iv bh)),(61,(.bool ah)),(62,(.bool ah)),(64,(.bool (ah&&ai)))]) ?_ ?_
      ·rcases Bool.eq_false_or_eq_true ah with bx|bx
       ·refine AD f bx ?_
        refine Aa f Z λa f=>l_o f (AS (f.e Z) bx (f.e Z)) λa f=> ?_
        exact⟨_,gr,m,f.weak ⟨Z,Z,Z,Z,Z,Z,Z,Z,Z,Z,Z,by rw[bx];rfl,trivial⟩⟩
       ·refine AE f bx λa f=> ?_
        refine l_o f (AR (f.e Z) bx (f.e Z)) λa f=> ?_
        exact⟨_,gr,m,f.weak ⟨Z,Z,Z,Z,Z,Z,Z,Z,Z,Z,Z,by rw[bx];rfl,trivial⟩⟩
      ·rintro a w ⟨bw,bz,m,f⟩
       have bv:=od1 bz bv
       refine Aa f Z λa f=> ?_
       refine Br 3 (λa w=>∃bA,GLe bw bA∧Mem W bA w (bj::H)∧Fr a 134 [(0,v0),(1,(iv ae)),(2,(iv af)),(3,(iv aP)),(8,(.bool ah)),(9,(.bool ai)),(10,(iv (i64.wrap (af-ae)))),(11,(iv bg)),(12,(iv bh)),(61,(.bool ah)),(62,(.bool ah)),(64,(.bool (ah&&ai))),(65,(.bool (ah&&ai))),(68,(.bool ((ah&&ai)&&(bh==1))))]) ?_ ?_
       ·rcases Bool.eq_false_or_eq_true (ah&&ai) with bB|bB
        ·refine AD f bB ?_
         refine Aa f Z λa f=>AD f bB ?_
         refine Ai f Z Z BT λa f=>l_o f (AS (f.e Z) bB (f.e Z)) λa f=> ?_
         exact⟨_,gr,m,f.weak ⟨Z,Z,Z,Z,Z,Z,Z,Z,Z,Z,Z,Z,Z,by rw[bB];rfl,trivial⟩⟩
        ·refine AE f bB λa f=> ?_
         refine AE f bB λa f=>l_o f (AR (f.e Z) bB (f.e Z)) λa f=> ?_
         exact⟨_,gr,m,f.weak ⟨Z,Z,Z,Z,Z,Z,Z,Z,Z,Z,Z,Z,Z,by rw[bB];rfl,trivial⟩⟩
       ·rintro a w ⟨bA,bC,m,f⟩
        have bv:=od1 bC bv
        refine Ab ?_
        have⟨bD,bE,am⟩:=bind_some am
        refine AJ (λa w=>∃j_513':LI,bD= .inl j_513'∧∃bF:LI,bF=j_513'∧∃(bG:GH) (bH:Itm),GLe bA bG∧Fr a 134 [(0,v0),(1,(iv ae)),(2,(iv af)),(3,(iv aP)),(8,(.bool ah)),(9,(.bool ai)),(10,(iv (i64.wrap (af-ae)))),(11,(iv bg))]∧Mem W bG w (bH::H)∧Ow R0 2 bG bH v0 bF) ?_ ?_
        ·rcases Af bE with⟨bI,bE⟩|⟨bI,bE⟩
         ·refine Al f Z bI ?_
          refine Ag ?_
          refine Aa f Z λa f=>Aa f Z λa f=>Aa f Z λa f=> ?_
          have⟨bJ,bK,bE⟩:=bind_some bE
          refine AT f Z call136 (Wk.j0 m bv bK) λbL bM bN w bO m bP a f=> ?_
          obtain⟨bQ,rfl,rfl,bR⟩:=bP
          refine Ab ?_
          rcases Af bE with⟨bS,bE⟩|⟨bS,bE⟩
          ·refine Al f Z bS ?_
           refine Ar ?_
           obtain rfl:=sj bE
           obtain rfl:=sj am
           obtain rfl:=an _ rfl
           obtain rfl:=sj hd
           exact⟨[],trivial,f.d,_,[bQ],(gt ao (gt a2 (gt a9 (gt bu (gt bz (gt bC bO)))))),m,_,Z,bR⟩
          ·refine Aj f Z bS ?_
           refine An ?_
           obtain rfl:=sj bE
           exact⟨_,Z,_,Z,_,bQ,bO,f.k Z,m,bR⟩
         ·refine Aj f Z bI ?_
          refine An ?_
          obtain rfl:=sj bE
          exact⟨_,Z,_,Z,_,bj,gr,f.k Z,m,bv⟩
        ·rintro a w ⟨_,rfl,bF,rfl,bG,bH,bT,f,m,bU⟩
         refine Ah (Ah ?_)
         refine A4 15 Az (by kernel_rfl) m ?_
         refine Ae 0 15 Z f Z λa f=>q_p 1 15 Z f (λ_=>AB (f.e Z) (f.e Z) Cs) λa f=>Ae 2 15 Z f Z λa f=> ?_
         have⟨bV,bW,am⟩:=bind_some am
         refine BR (fuel':=0) (listed':= #[true,true,true,true,true,true,true,true,true,true,true,true,true,true,true]) (λa=>Fr a 134 [(0,v0),(1,(iv ae)),(2,(iv af)),(3,(iv aP)),(8,(.bool ah)),(9,(.bool ai)),(10,(iv (i64.wrap (af-ae)))),(11,(iv bg)),(73,(iv ae)),(74,(.bool (decide ((0:Int)<ae)))),(75,(.bool (decide ((0:Int)<ae)))),(87,(.bool bV))]) ?_ ?_
         ·intro a f
          refine AN λbX w bY m=> ?_
          have bU:=od1 bY bU
          refine Ab ?_
          rcases Af am with⟨bZ,am⟩|⟨bZ,am⟩
          ·refine Al f Z bZ ?_
           refine Ag ?_
           refine Aa f Z λa f=>Aa f Z λa f=>Aa f Z λa f=>Aa f Z λa f=> ?_
           have⟨b0,b1,am⟩:=bind_some am
           refine AT f Z call138 (Wk.H0 m bU b1) λb2 b3 b4 w b5 m b6 a f=> ?_
           obtain⟨b7,rfl,rfl,b8⟩:=b6
           refine Ac f Z λa f=>Ay ?_
           refine Aa f Z λa f=>Ac f Z λa f=>Ab ?_
           refine AG Z ?_
           obtain rfl:=sj am
           exact⟨_,Z,_,_,_,_,_,_,Z,_,b7,(gt ao (gt a2 (gt a9 (gt bu (gt bz (gt bC (gt bT (gt bY b5)))))))),f.k Z,m,b8⟩
          ·refine Aj f Z bZ ?_
           refine An ?_
           refine Ag ?_
           refine Aa f Z λa f=>Aa f Z λa f=>Aa f Z λa f=>Aa f Z λa f=> ?_
           have⟨b9,ca,am⟩:=bind_some am
           refine AT f Z call139 (Wk.A0 m bU ca) λcb cc cd w ce m cf a f=> ?_
           obtain⟨cg,rfl,rfl,ch⟩:=cf
           refine Aa f Z λa f=>l_o f (AI (f.e Z) Z) λa f=>l_o f (AI (f.e Z) Z) λa f=>Ac f Z λa f=>Ac f Z λa f=>Ay ?_
           refine Aa f Z λa f=>Ac f Z λa f=>Ay ?_
           refine Aa f Z λa f=>Aa f Z λa f=>Ai f Z Z AF λa f=>Aa f Z λa f=>Aa f Z λa f=>Ai f Z Z AF λa f=>Ac f Z λa f=>Ac f Z λa f=>Ay ?_
           refine Aa f Z λa f=>Ai f Z Z (CK Z) λa f=>Ac f Z λa f=>Ay ?_
           refine Aa f Z λa f=>Aa f Z λa f=>Ai f Z Z AV λa f=>Ab ?_
           rcases Af am with⟨ci,am⟩|⟨ci,am⟩
           ·refine Al f Z ci ?_
            refine Ag ?_
            refine Aa f Z λa f=>Aa f Z λa f=>Ai f Z Z BH λa f=>Ac f Z λa f=>Ay ?_
            refine Aa f Z λa f=>Aa f Z λa f=>Aa f Z λa f=>Aa f Z λa f=> ?_
            have⟨cj,ck,am⟩:=bind_some am
            refine AT f Z call123 (ih m ch ck) λcl cm cn w co m cp a f=> ?_
            obtain⟨cq,rfl,cr⟩:=cp
            refine Ab (Ao ?_)
            refine Aa f Z λa f=>Ai f Z Z As λa f=>Ac f Z λa f=>Ab ?_
            obtain rfl:=sj am
            exact⟨_,Z,_,_,_,_,_,_,Z,_,cq,(gt ao (gt a2 (gt a9 (gt bu (gt bz (gt bC (gt bT (gt bY (gt ce co))))))))),f.k Z,m,cr⟩
           ·refine Aj f Z ci ?_
            refine Ag ?_
            refine Aa f Z λa f=>Aa f Z λa f=>Ai f Z Z BH λa f=>Ac f Z λa f=>Ay ?_
            refine Aa f Z λa f=>Aa f Z λa f=>Ai f Z Z As λa f=>Aa f Z λa f=>Aa f Z λa f=> ?_
            have⟨cs,ct,am⟩:=bind_some am
            refine AT f Z call123 (ih m ch ct) λcu cv cw w cx m cy a f=> ?_
            obtain⟨cz,rfl,cA⟩:=cy
            refine Ab (Ao ?_)
            refine Aa f Z λa f=>Ac f Z λa f=>Ab ?_
            obtain rfl:=sj am
            exact⟨_,Z,_,_,_,_,_,_,Z,_,cz,(gt ao (gt a2 (gt a9 (gt bu (gt bz (gt bC (gt bT (gt bY (gt ce cx))))))))),f.k Z,m,cA⟩
         ·intro cB
          rcases Af bW with⟨cC,bW⟩|⟨cC,bW⟩
          ·refine Ae (hw:=wo f cC) 3 15 Z f Z λa f=> ?_
           refine Ae (hw:=wo f cC) 4 15 Z f Z λa f=>q_p (hw:=wo f cC) 5 15 Z f (λ_=>AB (f.e Z) (f.e Z) AF) λa f=> ?_
           have⟨cD,cE,bW⟩:=bind_some bW
           refine AW (hw:=wo f cC) 6 15 0 m bU T28 cE Z f Z Z λcF a cG f=>Ba (hw:=wo f cC) 7 15 0 bU Pl2 cG cE Z f Z λcH a cI f=> ?_
           subst cI
           refine Ae (hw:=wo f cC) 8 15 Z f Z λa f=>Ae (hw:=wo f cC) 9 15 Z f Z λa f=> ?_
           have⟨cJ,cK,bW⟩:=bind_some bW
           refine AW (hw:=wo f cC) 10 15 0 m bU T28 cK Z f Z Z λcL a cM f=>Ba (hw:=wo f cC) 11 15 0 bU Pl2 cM cK Z f Z λcN a cO f=> ?_
           subst cO
           have⟨cP,cQ,bW⟩:=bind_some bW
           refine Bu (i:=12) 15 Z (by kernel_rfl) Z f (AC f Z Z Z cC) Z Z call137 (λ_ _ w cR m=>Wk.a m cQ) λa f=>q_p (hw:=wo f cC) 13 15 Z f (λ_=>Bg (f.e Z)) λa f=>q_p 14 15 Z f (λ_=>AS (f.e Z) cC (f.e Z)) λa f=> ?_
           obtain rfl:=sj bW
           exact cB _ (f.k Z)
          ·refine Am 3 15 Z f cC λa f=> ?_
           refine Am 4 15 Z f cC λa f=>Am 5 15 Z f cC λa f=>Am 6 15 Z f cC λa f=>Am 7 15 Z f cC λa f=>Am 8 15 Z f cC λa f=>Am 9 15 Z f cC λa f=>Am 10 15 Z f cC λa f=>Am 11 15 Z f cC λa f=>Am 12 15 Z f cC λa f=>Am 13 15 Z f cC λa f=>q_p 14 15 Z f (λ_=>AR (f.e Z) cC (f.e Z)) λa f=> ?_
           obtain rfl:=sj bW
           exact cB _ (f.k Z)
theorem Wk.g {v0:Value}{it0:Itm}{x0:LI}{x1 x2 x3:Int}(m:Mem W G w (it0::H))(o0:Ow R0 2 G it0 v0 x0){y:(LI)}(hd:D.g x0 x1 x2 x3=some y):
  Calls prog 123 #[v0,(iv x1),(iv x2),(iv x3)] w (Res W G H (λG' Ho _=>∃i0:Itm,Ho=[i0]∧Ow R0 2 G' i0 v0 y)):=by
 exact Wk.C CF m o0 hd
theorem Wk.g1 {v0:Value}{it0:Itm}{x0:LI}(m:Mem W G w (it0::H))(o0:Ow R0 2 G it0 v0 x0){y:(LI)}(hd:D.g1 x0=some y):
  Calls prog 111 #[v0] w (Res W G H (λG' Ho _=>∃i0:Itm,Ho=[i0]∧Ow R0 2 G' i0 v0 y)):=by
 refine Au (args:=[v0]) (N:=11) [] func111 Z Z (lb Z) Z λa f=> ?_
 unfold D.g1 at hd
 refine Ag ?_
 refine Aa f Z λa f=>Dc 0 m o0 Z underlying28 f Z Z λa f=>Ac f Z λa f=>Ab (Ao ?_)
 refine Aa f Z λa f=>Aa f Z λa f=>Aa f Z λa f=>l_o f (Cw (f.e Z) ⟨_,underlying3⟩ underlying56) λa f=> ?_
 have⟨aa,ab,hd⟩:=bind_some hd
 refine AT f Z call124 (Wk.j m ab) λac ad ae w af m ag a f=> ?_
 obtain⟨rfl,rfl⟩:=ag
 have o0:=od1 af o0
 have⟨ah,ai,hd⟩:=bind_some hd
 refine AT f Z call123 (Wk.g m o0 ai) λaj ak al w am m an a f=> ?_
 obtain⟨ao,rfl,ap⟩:=an
 refine Ab ?_
 obtain rfl:=sj hd
 exact⟨[],trivial,f.d,_,[ao],(gt af am),m,_,Z,ap⟩
theorem Wk.h0 {v0:Value}{b0:Nat}{x0:LI}(m:Mem W G w (ib b0 28 [v0]::H))(h0:R1 G v0 x0){y:(LI)}(hd:D.h0 x0=some y):
  Calls prog 92 #[(.func (.func 112) #[] #[(pb b0)])] w (Res W G H (λG' Ho v=>∃r0:Value,∃i0:Itm,Ho=[i0]∧r0=v∧Ow R0 2 G' i0 r0 y)):=by
 refine Au (args:=[(.func (.func 112) #[] #[(pb b0)])]) (N:=9) [.tmp 2] func92 Z Z (lb Z) Z λa f=> ?_
 unfold D.h0 at hd
 refine Ag ?_
 refine Ac f Z λa f=>Ay ?_
 refine Aa f Z λa f=> ?_
 have⟨aa,ab,hd⟩:=bind_some hd
 refine AT f Z call110 (Wk.j1 m h0 ab) λac ad ae w af m ag a f=> ?_
 obtain⟨ah,ai,rfl,rfl,aj⟩:=ag
 refine Ac f Z λa f=>Ay ?_
 refine Aa f Z λa f=> ?_
 have⟨ak,al,hd⟩:=bind_some hd
 refine AT f Z call111 (Wk.g1 m aj al) λam an ao w ap m aq a f=> ?_
 obtain⟨ar,rfl,au⟩:=aq
 refine Ay ?_
 refine Aa f Z λa f=>Ac f Z λa f=>Ab ?_
 refine Ar ?_
 obtain rfl:=sj hd
 exact⟨[ah],f.g Z,f.d,_,[ar],(gt af ap),m,_,_,Z,Z,au⟩
theorem Wk.m1 {x0:Int}(hW:CI W)(m:Mem W G w (H)){y:Int}(hd:D.m1 x0=some y):
  Calls prog 97 #[(.int .u32 x0)] w (Res W G H (λ_ Ho v=>Ho=[]∧v=(iv y))):=by
 refine Au (args:=[(.int .u32 x0)]) (N:=14) [.tmp 2] func97 Z Z (lb Z) Z λa f=> ?_
 unfold D.m1 at hd
 refine Ag ?_
 refine Ac f Z λa f=>Ab (Ah (Ag ?_))
 refine Aa f Z λa f=>Ai f Z Z BT λa f=>Ab ?_
 rcases Af hd with⟨aa,hd⟩|⟨aa,hd⟩
 ·refine Al f Z aa ?_
  refine Ag ?_
  refine Ac f Z λa f=>Ab ?_
  refine Ar ?_
  obtain rfl:=sj hd
  exact⟨[(iv 32)],f.g Z,f.d,_,[],gr,m,Z,Z⟩
 ·refine Aj f Z aa ?_
  refine An ?_
  refine Ag ?_
  refine Aa f Z λa f=>Aa f Z λa f=>l_o f (r_neg (f.e Z)) λa f=>Ai f Z Z D8 λa f=>Ai f Z Z Ct λa f=>l_o f (r_shr (f.e Z) (f.e Z) (by decide)) λa f=> ?_
  have⟨ab,ac,hd⟩:=bind_some hd
  refine l_tab hW m underlying131 sizeOf5 f Z Z ac λad a ae f=>Bl m Pl5 f Z Z ae λa f=>l_o f (Cw (f.e Z) ⟨_,underlying5⟩ underlying3) λa f=>Ac f Z λa f=>Ab ?_
  refine Ar ?_
  obtain rfl:=sj hd
  exact⟨[(iv (i64.wrap ab))],f.g Z,f.d,_,[],gr,m,Z,Z⟩
theorem Wk.a1 {v0:Value}{x0:LI}{x1:Int}(m:Mem W G w (H))(h0:R1 G v0 x0){y:Int}(hd:D.a1 x0 x1=some y):
  Calls prog 95 #[v0,(iv x1)] w (Res W G H (λ_ Ho v=>Ho=[]∧v=(iv y))):=by
 refine Au (args:=[v0,(iv x1)]) (N:=19) [.tmp 4] func95 Z Z (lb Z) Z λa f=> ?_
 unfold D.a1 at hd
 refine Ag ?_
 refine Ac f Z λa f=>Ab (Ah (Ag ?_))
 refine Aa f Z λa f=>Bf underlying28 f Z Z h0 λa f=>Aa f Z λa f=>Ab ?_
 have⟨aa,ab,hd⟩:=bind_some hd
 refine AJ (λa w=>∃q_19':Unit,aa= .inl q_19'∧∃(ac:GH),GLe G ac∧Fr a 19 []∧Mem W ac w (H)) ?_ ?_
 ·refine Ak ?_
  refine AK (λad a w=>∃ae:Int,ae=ad∧∃(af:GH),GLe G af∧Fr a 19 [(0,v0),(1,(iv x1)),(7,(iv (x0.length:Int))),(8,(iv ae))]∧Mem W af w (H)) ab ⟨_,Z,_,gr,f.k Z,m⟩ ?_
  clear ab f m
  rintro ad ag ah ai a w ⟨ae,rfl,af,aj,f,m⟩
  have h0:=rd1 aj h0
  refine Ag ?_
  refine Ai f Z Z AV λa f=>Ab (Ah ?_)
  rcases Af ah with⟨ak,ah⟩|⟨ak,ah⟩
  ·refine Al f Z ak ?_
   refine An ?_
   refine Ah (Ak (Ag ?_))
   refine Aa f Z λa f=>Ac f Z λa f=>Ay ?_
   refine Aa f Z λa f=>Aa f Z λa f=>Aa f Z λa f=> ?_
   have⟨al,am,ah⟩:=bind_some ah
   refine Cc T28 f Z Z Z h0 am λan ao a ap aq f=> ?_
   subst aq
   refine Bl m Pl2 f Z Z ap λa f=>Ai f Z Z BT λa f=>Ab ?_
   rcases Af ah with⟨ar,ah⟩|⟨ar,ah⟩
   ·refine Al f Z ar ?_
    refine Ag ?_
    refine Aa f Z λa f=>Ac f Z λa f=>Ab ?_
    refine Ar ?_
    obtain rfl:=sj ah
    obtain rfl:=ai _ rfl
    obtain rfl:=sj hd
    exact⟨[(iv ae)],f.g Z,f.d,_,[],aj,m,Z,Z⟩
   ·refine Aj f Z ar ?_
    refine An ?_
    refine Ao ?_
    refine Ai f Z Z As λa f=>Aa f Z λa f=>Ab ?_
    obtain rfl:=sj ah
    exact⟨_,Z,_,Z,_,aj,f.k Z,m⟩
  ·refine Aj f Z ak ?_
   refine AG Z ?_
   obtain rfl:=sj ah
   obtain rfl:=ai _ rfl
   exact⟨_,Z,_,aj,f.weak trivial,m⟩
 ·rintro a w ⟨_,rfl,ac,au,f,m⟩
  refine Ag ?_
  refine Ac f Z λa f=>Ab ?_
  refine Ar ?_
  obtain rfl:=sj hd
  exact⟨[(iv (-1))],f.g Z,f.d,_,[],au,m,Z,Z⟩
theorem Wk.V {v0:Value}{x0:LI}{x1:Int}(m:Mem W G w (H))(h0:R1 G v0 x0){y:Bool}(hd:D.V x0 x1=some y):
  Calls prog 55 #[v0,(iv x1)] w (Res W G H (λ_ Ho v=>Ho=[]∧v=(.bool y))):=by
 refine Au (args:=[v0,(iv x1)]) (N:=9) [.tmp 4] func55 Z Z (lb Z) Z λa f=> ?_
 unfold D.V at hd
 refine Ag ?_
 refine Ac f Z λa f=>Ay ?_
 refine Aa f Z λa f=>Aa f Z λa f=> ?_
 have⟨aa,ab,hd⟩:=bind_some hd
 refine Bk f Z call95 (Wk.a1 m h0 ab) λac w ad m a f=>Ai f Z Z BH λa f=>Ac f Z λa f=>Ab ?_
 refine Ar ?_
 obtain rfl:=sj hd
 exact⟨[(.bool (decide ((0:Int)≤aa)))],f.g Z,f.d,_,[],ad,m,Z,Z⟩
theorem Wk.g0 {v0:Value}{x0:LI}(m:Mem W G w (H))(h0:RSl (RI .u32) G v0 x0){y:(LI)}(hd:D.g0 x0=some y):
  Calls prog 57 #[v0] w (Res W G H (λG' Ho v=>∃r0:Value,∃i0:Itm,Ho=[i0]∧r0=v∧Ow (RI .u32) 65 G' i0 r0 y)):=by
 refine Au (args:=[v0]) (N:=8) [.tmp 2] func57 Z Z (lb Z) Z λa f=> ?_
 unfold D.g0 at hd
 refine Ag ?_
 refine Ac f Z λa f=>Ab (Ah (Ag ?_))
 refine Aa f Z λa f=>l_o f (DY (f.e Z) (f.e Z) h0.hdr underlying58 Z) λa f=>Ab ?_
 rcases Bool.eq_false_or_eq_true (Dk v0) with aa|aa
 ·have hz:=h0.nil_inv aa
  subst hz
  replace hd:some ([]:LI)=some _:=hd
  refine Al f Z aa ?_
  refine Ag ?_
  refine Ac f Z λa f=>Ab ?_
  refine Ar ?_
  obtain⟨ab,m,ac⟩:=Ow.nil (RI .u32) 65 m
  obtain rfl:=sj hd
  exact⟨[sn],f.g Z,f.d,_,[ab],gr,m,_,_,Z,Z,ac⟩
 ·refine Aj f Z aa ?_
  refine An ?_
  refine Ag ?_
  refine BQ (R:=(RI .u32)) (xs:=([]:LI)) (RI.one _) m T58 f Z Z Z (by decide) (All2.nil _) λad ae w a m af f=>Aa f Z λa f=> ?_
  have⟨ag,ah,hd⟩:=bind_some hd
  refine BJ (RI.one _) 0 m af Z T58 Z (by decide) f Z Z Z (h0.src m) ah λai aj w a m ak f=>Ac f Z λa f=>Ab ?_
  refine Ar ?_
  obtain rfl:=sj hd
  exact⟨[aj],f.g Z,f.d,_,[ai],gr,m,_,_,Z,Z,ak⟩
theorem Wk.K0 {x0:Int}(m:Mem W G w (H)){y:Int}(hd:D.K0 x0=some y):
  Calls prog 98 #[(.int .u32 x0)] w (Res W G H (λ_ Ho v=>Ho=[]∧v=(iv y))):=by
 refine Au (args:=[(.int .u32 x0)]) (N:=21) [.tmp 2] func98 Z Z (lb Z) Z λa f=> ?_
 unfold D.K0 at hd
 refine Ag ?_
 refine Ac f Z λa f=>Ab (Ah ?_)
 refine A4 19 Az (by kernel_rfl) m ?_
 refine Ae 0 19 Z f Z λa f=>q_p 1 19 Z f (λ_=>r_shr (f.e Z) (f.e Z) (by decide)) λa f=> ?_
 have⟨aa,ab,hd⟩:=bind_some hd
 refine q_p 2 19 Z f (λ_=>EX (f.e Z) (f.e Z) underlying9 ab) λa f=>Ae 3 19 Z f Z λa f=>q_p 4 19 Z f (λ_=>r_shr (f.e Z) (f.e Z) (by decide)) λa f=>q_p 5 19 Z f (λ_=>AB (f.e Z) (f.e Z) D8) λa f=> ?_
 have⟨ac,ad,hd⟩:=bind_some hd
 refine q_p 6 19 Z f (λ_=>EX (f.e Z) (f.e Z) underlying9 ad) λa f=>q_p 7 19 Z f (λ_=>AB (f.e Z) (f.e Z) As) λa f=>Ae 8 19 Z f Z λa f=>q_p 9 19 Z f (λ_=>r_shr (f.e Z) (f.e Z) (by decide)) λa f=>q_p 10 19 Z f (λ_=>AB (f.e Z) (f.e Z) D8) λa f=> ?_
 have⟨ae,af,hd⟩:=bind_some hd
 refine q_p 11 19 Z f (λ_=>EX (f.e Z) (f.e Z) underlying9 af) λa f=>q_p 12 19 Z f (λ_=>AB (f.e Z) (f.e Z) As) λa f=>Ae 13 19 Z f Z λa f=>q_p 14 19 Z f (λ_=>AB (f.e Z) (f.e Z) D8) λa f=> ?_
 have⟨ag,ah,hd⟩:=bind_some hd
 refine q_p 15 19 Z f (λ_=>EX (f.e Z) (f.e Z) underlying9 ah) λa f=>q_p 16 19 Z f (λ_=>AB (f.e Z) (f.e Z) As) λa f=>q_p 17 19 Z f (λ_=>Cw (f.e Z) ⟨_,underlying5⟩ underlying3) λa f=>q_p 18 19 Z f (λ_=>Cb (f.e Z)) λa f=>AN λai w aj m=>Ab ?_
 refine Ar ?_
 obtain rfl:=sj hd
 exact⟨[(iv (i64.wrap (IntKind.u8.wrap ((IntKind.u8.wrap ((IntKind.u8.wrap (aa+ac))+ae))+ag))))],f.g Z,f.d,_,[],aj,m,Z,Z⟩
theorem Wk.M {v0:Value}{x0:LI}(m:Mem W G w (H))(h0:R1 G v0 x0){y:(LI)}(hd:D.M x0=some y):
  Calls prog 32 #[v0] w (Res W G H (λG' Ho v=>∃r0:Value,∃i0:Itm,Ho=[i0]∧r0=v∧Ow R0 2 G' i0 r0 y)):=by
 refine Au (args:=[v0]) (N:=8) [.tmp 2] func32 Z Z (lb Z) Z λa f=> ?_
 unfold D.M at hd
 refine Ag ?_
 refine Ac f Z λa f=>Ab (Ah (Ag ?_))
 refine Aa f Z λa f=>l_o f (DY (f.e Z) (f.e Z) h0.hdr underlying28 Z) λa f=>Ab ?_
 rcases Bool.eq_false_or_eq_true (Dk v0) with aa|aa
 ·have hz:=h0.nil_inv aa
  subst hz
  replace hd:some ([]:LI)=some _:=hd
  refine Al f Z aa ?_
  refine Ag ?_
  refine Ac f Z λa f=>Ab ?_
  refine Ar ?_
  obtain⟨ab,m,ac⟩:=Ow.nil R0 2 m
  obtain rfl:=sj hd
  exact⟨[sn],f.g Z,f.d,_,[ab],gr,m,_,_,Z,Z,ac⟩
 ·refine Aj f Z aa ?_
  refine An ?_
  refine Ag ?_
  refine BQ (R:=R0) (xs:=([]:LI)) (RI.one _) m T28 f Z Z Z (by decide) (All2.nil _) λad ae w a m af f=>Aa f Z λa f=> ?_
  have⟨ag,ah,hd⟩:=bind_some hd
  refine BJ (RI.one _) 0 m af Z T28 Z (by decide) f Z Z Z (h0.src m) ah λai aj w a m ak f=>Ac f Z λa f=>Ab ?_
  refine Ar ?_
  obtain rfl:=sj hd
  exact⟨[aj],f.g Z,f.d,_,[ai],gr,m,_,_,Z,Z,ak⟩
theorem Wk.Y {v0:Value}{it0:Itm}{x0:LI}(m:Mem W G w (it0::H))(o0:Ow R0 2 G it0 v0 x0){y:(LI)}(hd:D.Y x0=some y):
  Calls prog 33 #[v0] w (Res W G H (λG' Ho _=>∃i0:Itm,Ho=[i0]∧Ow R0 2 G' i0 v0 y)):=by
 refine Au (args:=[v0]) (N:=28) [] func33 Z Z (lb Z) Z λa f=> ?_
 unfold D.Y at hd
 refine Ag ?_
 refine Aa f Z λa f=>Dc 0 m o0 Z underlying28 f Z Z λa f=>Ai f Z Z AF λa f=>Ac f Z λa f=>Ac f Z λa f=>Ab ?_
 have⟨aa,ab,hd⟩:=bind_some hd
 refine AJ (λa w=>∃ac:LI,ac=aa∧∃(ad:GH) (ae:Itm),GLe G ad∧Fr a 28 []∧Mem W ad w (ae::H)∧Ow R0 2 ad ae v0 ac) ?_ ?_
 ·refine Ak ?_
  refine AK (λaf a w=>∃ag:LI,∃ah:Int,∃ai:Int,(ag,ah,ai)=af∧∃(aj:GH) (ak:Itm),GLe G aj∧Fr a 28 [(0,v0),(2,(iv ah)),(3,(iv ai))]∧Mem W aj w (ak::H)∧Ow R0 2 aj ak v0 ag) ab ⟨_,_,_,Z,_,it0,gr,f.k Z,m,o0⟩ ?_
  clear ab f m
  rintro af al am an a w ⟨ag,ah,ai,rfl,aj,ak,ao,f,m,ap⟩
  refine Ah (Ag ?_)
  refine Aa f Z λa f=>Aa f Z λa f=>Ai f Z Z AV λa f=>Ab ?_
  rcases Af am with⟨aq,am⟩|⟨aq,am⟩
  ·refine Al f Z aq ?_
   refine An ?_
   refine Ah (Ak ?_)
   refine Bj Az m ?_
   refine p_p 2 Z f (λ_=>AU (f.e Z)) λa f=>p_p 3 Z f (λ_=>AU (f.e Z)) λa f=>Bi 12013 11 (by kernel_rfl) Z ?_
   refine Ae 0 12013 Z f Z λa f=>Ae 1 12013 Z f Z λa f=>Ae 4 12013 Z f Z λa f=>Ae 5 12013 Z f Z λa f=> ?_
   have⟨ar,au,am⟩:=bind_some am
   refine AW 6 12013 0 m ap T28 au Z f Z Z λav a aw f=>Ba 7 12013 0 ap Pl2 aw au Z f Z λax a ay f=> ?_
   subst ay
   refine Ae 8 12013 Z f Z λa f=>Ae 9 12013 Z f Z λa f=> ?_
   have⟨az,aA,am⟩:=bind_some am
   refine AW 10 12013 0 m ap T28 aA Z f Z Z λaB a aC f=>Ba 11 12013 0 ap Pl2 aC aA Z f Z λaD a aE f=> ?_
   subst aE
   have⟨aF,aG,am⟩:=bind_some am
   refine AW 12 12013 0 m ap T28 aG Z f Z Z λaH a aI f=>AN λaJ w aK m=> ?_
   have ap:=od1 aK ap
   refine AM 0 m ap Z sizeOf2 f Z Z aI aG Z Z Z λaL w m aM=> ?_
   have⟨aN,aO,am⟩:=bind_some am
   refine Bo 0 m aM Z T28 f Z Z Z aO λaP a aQ f=>AM 0 m aM Z sizeOf2 f Z Z aQ aO Z Z Z λaR w m aS=>Ab (Ao ?_)
   refine Aa f Z λa f=>Ai f Z Z As λa f=>Aa f Z λa f=>Ai f Z Z AF λa f=>Ac f Z λa f=>Ac f Z λa f=>Ab ?_
   obtain rfl:=sj am
   exact⟨_,Z,_,_,_,Z,_,aR,(gt ao aK),f.k Z,m,aS⟩
  ·refine Aj f Z aq ?_
   refine AG Z ?_
   obtain rfl:=sj am
   obtain rfl:=an _ rfl
   exact⟨_,Z,_,ak,ao,f.weak trivial,m,ap⟩
 ·rintro a w ⟨ac,rfl,ad,ae,aT,f,m,aU⟩
  obtain rfl:=sj hd
  exact⟨[],trivial,f.d,_,[ae],aT,m,_,Z,aU⟩
theorem Wk.E0 {v0 v1:Value}{x0 x1:LI}(m:Mem W G w (H))(h0:R1 G v0 x0)(h1:R1 G v1 x1){y:Bool}(hd:D.E0 x0 x1=some y):
  Calls prog 71 #[v0,v1] w (Res W G H (λ_ Ho v=>Ho=[]∧v=(.bool y))):=by
 refine Au (args:=[v0,v1]) (N:=26) [.tmp 4] func71 Z Z (lb Z) Z λa f=> ?_
 unfold D.E0 at hd
 refine Ag ?_
 refine Ac f Z λa f=>Ab (Ah (Ag ?_))
 refine Aa f Z λa f=>Bf underlying28 f Z Z h0 λa f=>Aa f Z λa f=>Bf underlying28 f Z Z h1 λa f=>Ai f Z Z C5 λa f=>Ab ?_
 rcases Af hd with⟨aa,hd⟩|⟨aa,hd⟩
 ·refine Al f Z aa ?_
  refine Ag ?_
  refine Ac f Z λa f=>Ab ?_
  refine Ar ?_
  obtain rfl:=sj hd
  exact⟨[(.bool false)],f.g Z,f.d,_,[],gr,m,Z,Z⟩
 ·refine Aj f Z aa ?_
  refine An ?_
  refine Ah (Ag ?_)
  refine Aa f Z λa f=>Bf underlying28 f Z Z h0 λa f=>Aa f Z λa f=>Ab ?_
  have⟨ab,ac,hd⟩:=bind_some hd
  refine AJ (λa w=>∃q_36':Unit,ab= .inl q_36'∧∃(ad:GH),GLe G ad∧Fr a 26 []∧Mem W ad w (H)) ?_ ?_
  ·refine Ak ?_
   refine AK (λae a w=>∃af:Int,af=ae∧∃(ag:GH),GLe G ag∧Fr a 26 [(0,v0),(1,v1),(12,(iv (x0.length:Int))),(13,(iv af))]∧Mem W ag w (H)) ac ⟨_,Z,_,gr,f.k Z,m⟩ ?_
   clear ac f m
   rintro ae ah ai aj a w ⟨af,rfl,ag,ak,f,m⟩
   have h0:=rd1 ak h0
   have h1:=rd1 ak h1
   refine Ag ?_
   refine Ai f Z Z AV λa f=>Ab (Ah ?_)
   rcases Af ai with⟨al,ai⟩|⟨al,ai⟩
   ·refine Al f Z al ?_
    refine An ?_
    refine Ah (Ak (Ag ?_))
    refine Aa f Z λa f=>Ac f Z λa f=>Ab (Ah ?_)
    refine A4 9 Az (by kernel_rfl) m ?_
    refine Ae 0 9 Z f Z λa f=>Ae 1 9 Z f Z λa f=> ?_
    have⟨am,an,ai⟩:=bind_some ai
    refine Cy 2 9 T28 h0 an Z f Z Z λao ap a aq ar f=> ?_
    subst ar
    refine Cv 3 9 Pl2 aq Z f Z λa f=>Ae 4 9 Z f Z λa f=>Ae 5 9 Z f Z λa f=> ?_
    have⟨au,av,ai⟩:=bind_some ai
    refine Cy 6 9 T28 h1 av Z f Z Z λaw ax a ay az f=> ?_
    subst az
    refine Cv 7 9 Pl2 ay Z f Z λa f=>q_p 8 9 Z f (λ_=>AB (f.e Z) (f.e Z) C5) λa f=>AN λaA w aB m=>Ab ?_
    rcases Af ai with⟨aC,ai⟩|⟨aC,ai⟩
    ·refine Al f Z aC ?_
     refine Ag ?_
     refine Ac f Z λa f=>Ab ?_
     refine Ar ?_
     obtain rfl:=sj ai
     obtain rfl:=aj _ rfl
     obtain rfl:=sj hd
     exact⟨[(.bool false)],f.g Z,f.d,_,[],(gt ak aB),m,Z,Z⟩
    ·refine Aj f Z aC ?_
     refine An ?_
     refine Ao ?_
     refine Ai f Z Z As λa f=>Aa f Z λa f=>Ab ?_
     obtain rfl:=sj ai
     exact⟨_,Z,_,Z,_,(gt ak aB),f.k Z,m⟩
   ·refine Aj f Z al ?_
    refine AG Z ?_
    obtain rfl:=sj ai
    obtain rfl:=aj _ rfl
    exact⟨_,Z,_,ak,f.weak trivial,m⟩
  ·rintro a w ⟨_,rfl,ad,aD,f,m⟩
   refine Ag ?_
   refine Ac f Z λa f=>Ab ?_
   refine Ar ?_
   obtain rfl:=sj hd
   exact⟨[(.bool true)],f.g Z,f.d,_,[],aD,m,Z,Z⟩
end Go.Proofs.YtmkcbhidbdggiaaGreatDoor
