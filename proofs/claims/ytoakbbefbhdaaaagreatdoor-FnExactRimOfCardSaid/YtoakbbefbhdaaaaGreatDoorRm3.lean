/- Parts. -/
import Derived.Test.YtoakbbefbhdaaaaGreatDoorRm2
import Derived.Test.YtoakbbefbhdaaaaGreatDoorProg
import Derived.KernelRfl
set_option linter.unusedVariables false
set_option linter.unusedSimpArgs false
set_option maxRecDepth 100000
namespace Go.Proofs.YtoakbbefbhdaaaaGreatDoor
open Go Go.Sx
open Go.Proofs.Tryz Go.Proofs.YtoakbbefbhdaaaaGreatDoor.Tryz IntKind
variable {W w : World} {G : GH} {H : List Itm}
theorem AA :prog.follows .mixedOrders=true:=by kernel_rfl
theorem Pl2 :BX prog 2:=isAgg2
theorem T39 :SlT prog 39 2 1 8 (iv 0):=⟨underlying39,Tryz.t2,by kernel_rfl,by kernel_rfl,by kernel_rfl,by kernel_rfl⟩
theorem Pl127 :BX prog 127:=isAgg127
theorem Pl3 :BX prog 3:=isAgg3
theorem T63 :SlT prog 63 3 1 8 (iv 0):=⟨underlying63,Tryz.t3,by kernel_rfl,by kernel_rfl,by kernel_rfl,by kernel_rfl⟩
theorem Pl5 :BX prog 5:=isAgg5
theorem Wk.h1 {v0:Value}{x0:LI}{x1:Int}(m:Mem W G w (H))(h0:R1 G v0 x0){y:Int}(hd:D.h1 x0 x1=some y):
  Calls prog 80 #[v0,(iv x1)] w (Res W G H (λ_ Ho v=>Ho=[]∧v=(iv y))):=by
 refine As (args:=[v0,(iv x1)]) (N:=19) [.tmp 4] func80 Z Z (lb Z) Z λa f=> ?_
 unfold D.h1 at hd
 refine Af ?_
 refine Ac f Z λa f=>Aa (Ah (Af ?_))
 refine Ab f Z λa f=>A2 underlying39 f Z Z h0 λa f=>Ab f Z λa f=>Aa ?_
 have⟨aa,ab,hd⟩:=bind_some hd
 refine AD (λa w=>∃q_19':Unit,aa= .inl q_19'∧∃(ac:GH),GLe G ac∧Fr a 19 []∧Mem W ac w (H)) ?_ ?_
 ·refine Ak ?_
  refine AB (λad a w=>∃ae:Int,ae=ad∧∃(af:GH),GLe G af∧Fr a 19 [(0,v0),(1,(iv x1)),(7,(iv (x0.length:Int))),(8,(iv ae))]∧Mem W af w (H)) ab ⟨_,Z,_,gr,f.k Z,m⟩ ?_
  clear ab f m
  rintro ad ag ah ai a w ⟨ae,rfl,af,aj,f,m⟩
  have h0:=rd1 aj h0
  refine Af ?_
  refine Ai f Z Z AT λa f=>Aa (Ah ?_)
  rcases Ae ah with⟨ak,ah⟩|⟨ak,ah⟩
  ·refine Al f Z ak ?_
   refine Ao ?_
   refine Ah (Ak (Af ?_))
   refine Ab f Z λa f=>Ac f Z λa f=>Aw ?_
   refine Ab f Z λa f=>Ab f Z λa f=>Ab f Z λa f=> ?_
   have⟨al,am,ah⟩:=bind_some ah
   refine Bq T39 f Z Z Z h0 am λan ao a ap aq f=> ?_
   subst aq
   refine AW m Pl2 f Z Z ap λa f=>Ai f Z Z Bv λa f=>Aa ?_
   rcases Ae ah with⟨ar,ah⟩|⟨ar,ah⟩
   ·refine Al f Z ar ?_
    refine Af ?_
    refine Ab f Z λa f=>Ac f Z λa f=>Aa ?_
    refine Ap ?_
    obtain rfl:=sj ah
    obtain rfl:=ai _ rfl
    obtain rfl:=sj hd
    exact⟨[(iv ae)],f.g Z,f.d,_,[],aj,m,Z,Z⟩
   ·refine Aj f Z ar ?_
    refine Ao ?_
    refine Am ?_
    refine Ai f Z Z Ar λa f=>Ab f Z λa f=>Aa ?_
    obtain rfl:=sj ah
    exact⟨_,Z,_,Z,_,aj,f.k Z,m⟩
  ·refine Aj f Z ak ?_
   refine Ay Z ?_
   obtain rfl:=sj ah
   obtain rfl:=ai _ rfl
   exact⟨_,Z,_,aj,f.weak trivial,m⟩
 ·rintro a w ⟨_,rfl,ac,au,f,m⟩
  refine Af ?_
  refine Ac f Z λa f=>Aa ?_
  refine Ap ?_
  obtain rfl:=sj hd
  exact⟨[(iv (-1))],f.g Z,f.d,_,[],au,m,Z,Z⟩
theorem Wk.q0 {v0:Value}{x0:LI}{x1:Int}(m:Mem W G w (H))(h0:R1 G v0 x0){y:Bool}(hd:D.q0 x0 x1=some y):
  Calls prog 69 #[v0,(iv x1)] w (Res W G H (λ_ Ho v=>Ho=[]∧v=(.bool y))):=by
 refine As (args:=[v0,(iv x1)]) (N:=9) [.tmp 4] func69 Z Z (lb Z) Z λa f=> ?_
 unfold D.q0 at hd
 refine Af ?_
 refine Ac f Z λa f=>Aw ?_
 refine Ab f Z λa f=>Ab f Z λa f=> ?_
 have⟨aa,ab,hd⟩:=bind_some hd
 refine Ba f Z call80 (Wk.h1 m h0 ab) λac w ad m a f=>Ai f Z Z Br λa f=>Ac f Z λa f=>Aa ?_
 refine Ap ?_
 obtain rfl:=sj hd
 exact⟨[(.bool (decide ((0:Int)≤aa)))],f.g Z,f.d,_,[],ad,m,Z,Z⟩
theorem Wk.k1 {v0:Value}{b0:Nat}{x0:LI}(m:Mem W G w (ib b0 39 [v0]::H))(h0:R1 G v0 x0){y:(LI)}(hd:D.k1 x0=some y):
  Calls prog 70 #[(.func (.func 72) #[] #[(pb b0)])] w (Res W G H (λG' Ho v=>∃r0:Value,∃i0:Itm,Ho=[i0]∧r0=v∧Ow R0 2 G' i0 r0 y)):=by
 refine As (args:=[(.func (.func 72) #[] #[(pb b0)])]) (N:=5) [.tmp 2] func70 Z Z (lb Z) Z λa f=> ?_
 unfold D.k1 at hd
 refine Af ?_
 refine Ac f Z λa f=>Aw ?_
 refine Ab f Z λa f=> ?_
 have⟨aa,ab,hd⟩:=bind_some hd
 refine AM f Z call81 (Wk.n1 m h0 ab) λac ad ae w af m ag a f=> ?_
 obtain⟨ah,ai,rfl,rfl,aj⟩:=ag
 refine Ac f Z λa f=>Aa ?_
 refine Ap ?_
 obtain rfl:=sj hd
 exact⟨[ah],f.g Z,f.d,_,[ai],af,m,_,_,Z,Z,aj⟩
theorem Wk.m0 {x0:Int}(m:Mem W G w (H)){y:Bool}(hd:D.m0 x0=some y):
  Calls prog 111 #[(iv x0)] w (Res W G H (λ_ Ho v=>Ho=[]∧v=(.bool y))):=by
 refine As (args:=[(iv x0)]) (N:=6) [.tmp 2] func111 Z Z (lb Z) Z λa f=> ?_
 unfold D.m0 at hd
 refine Af ?_
 refine Ac f Z λa f=>Aw ?_
 refine Ab f Z λa f=>Ab f Z λa f=>Ai f Z Z Ck λa f=>Ac f Z λa f=>Aa ?_
 refine Ap ?_
 obtain rfl:=sj hd
 exact⟨[(.bool (x0 !=x0))],f.g Z,f.d,_,[],gr,m,Z,Z⟩
theorem Wk.c {x0 x1:Int}(m:Mem W G w (H)){y:Bool}(hd:D.c x0 x1=some y):
  Calls prog 92 #[(iv x0),(iv x1)] w (Res W G H (λ_ Ho v=>Ho=[]∧v=(.bool y))):=by
 refine As (args:=[(iv x0),(iv x1)]) (N:=17) [.tmp 4] func92 Z Z (lb Z) Z λa f=> ?_
 unfold D.c at hd
 refine Af ?_
 refine Ac f Z λa f=>Aw ?_
 refine Ab f Z λa f=> ?_
 have⟨aa,ab,hd⟩:=bind_some hd
 refine Ba f Z call111 (Wk.m0 m ab) λac w ad m a f=>Ab f Z λa f=> ?_
 have⟨ae,af,hd⟩:=bind_some hd
 refine BF 4 (λa w=>∃ag,GLe ac ag∧Mem W ag w (H)∧Fr a 17 [(0,(iv x0)),(1,(iv x1)),(5,(iv x0)),(6,(.bool aa)),(7,(.bool aa)),(11,(.bool ae))]) ?_ ?_
 ·rcases Ae af with⟨ah,af⟩|⟨ah,af⟩
  ·refine AG f ah ?_
   refine Ab f Z λa f=>AG f ah ?_
   have⟨ai,aj,af⟩:=bind_some af
   refine Ba f Z call111 (Wk.m0 m aj) λak w al m a f=>AG f ah ?_
   refine l_o f (Be (f.e Z)) λa f=>l_o f (AO (f.e Z) ah (f.e Z)) λa f=> ?_
   obtain rfl:=sj af
   exact⟨_,al,m,f.k Z⟩
  ·refine AL f ah λa f=> ?_
   refine AL f ah λa f=>AL f ah λa f=>l_o f (AP (f.e Z) ah (f.e Z)) λa f=> ?_
   obtain rfl:=sj af
   exact⟨_,gr,m,f.k Z⟩
 ·rintro a w ⟨ag,am,m,f⟩
  refine Ab f Z λa f=> ?_
  refine BF 4 (λa w=>∃an,GLe ag an∧Mem W an w (H)∧Fr a 17 [(0,(iv x0)),(1,(iv x1)),(5,(iv x0)),(6,(.bool aa)),(7,(.bool aa)),(11,(.bool ae)),(12,(.bool ae)),(16,(.bool (ae||(decide (x0<x1)))))]) ?_ ?_
  ·rcases Bool.eq_false_or_eq_true ae with ao|ao
   ·refine AL f ao λa f=> ?_
    refine AL f ao λa f=>AL f ao λa f=>l_o f (AO (f.e Z) ao (f.e Z)) λa f=> ?_
    exact⟨_,gr,m,f.weak ⟨Z,Z,Z,Z,Z,Z,Z,by rw[ao];rfl,trivial⟩⟩
   ·refine AG f ao ?_
    refine Ab f Z λa f=>AG f ao ?_
    refine Ab f Z λa f=>AG f ao ?_
    refine Ai f Z Z AT λa f=>l_o f (AP (f.e Z) ao (f.e Z)) λa f=> ?_
    exact⟨_,gr,m,f.weak ⟨Z,Z,Z,Z,Z,Z,Z,by rw[ao];rfl,trivial⟩⟩
  ·rintro a w ⟨an,ap,m,f⟩
   refine Ac f Z λa f=>Aa ?_
   refine Ap ?_
   obtain rfl:=sj hd
   exact⟨[(.bool (ae||(decide (x0<x1))))],f.g Z,f.d,_,[],(gt ad (gt am ap)),m,Z,Z⟩
theorem Wk.H0 {v0:Value}{it0:Itm}{x0:LI}{x1 x2:Int}(m:Mem W G w (it0::H))(o0:Ow R0 2 G it0 v0 x0){y:(LI)}(hd:D.H0 x0 x1 x2=some y):
  Calls prog 86 #[v0,(iv x1),(iv x2)] w (Res W G H (λG' Ho _=>∃i0:Itm,Ho=[i0]∧Ow R0 2 G' i0 v0 y)):=by
 refine As (args:=[v0,(iv x1),(iv x2)]) (N:=49) [] func86 Z Z (lb Z) Z λa f=> ?_
 unfold D.H0 at hd
 refine Af ?_
 refine Ab f Z λa f=>Ai f Z Z Ar λa f=>Ac f Z λa f=>Aa ?_
 have⟨aa,ab,hd⟩:=bind_some hd
 refine AD (λa w=>∃ac:LI,ac=aa∧∃(ad:GH) (ae:Itm),GLe G ad∧Fr a 49 []∧Mem W ad w (ae::H)∧Ow R0 2 ad ae v0 ac) ?_ ?_
 ·refine Ak ?_
  refine AB (λaf a w=>∃ag:LI,∃ah:Int,(ag,ah)=af∧∃(ai:GH) (aj:Itm),GLe G ai∧Fr a 49 [(0,v0),(1,(iv x1)),(2,(iv x2)),(6,(iv ah))]∧Mem W ai w (aj::H)∧Ow R0 2 ai aj v0 ag) ab ⟨_,_,Z,_,it0,gr,f.k Z,m,o0⟩ ?_
  clear ab f m
  rintro af ak al am a w ⟨ag,ah,rfl,ai,aj,an,f,m,ao⟩
  refine Ah (Af ?_)
  refine Ab f Z λa f=>Ab f Z λa f=>Ai f Z Z AT λa f=>Aa ?_
  rcases Ae al with⟨ap,al⟩|⟨ap,al⟩
  ·refine Al f Z ap ?_
   refine Ao ?_
   refine Ah (Ak (Af ?_))
   refine Ab f Z λa f=>Ac f Z λa f=>Aa ?_
   have⟨aq,ar,al⟩:=bind_some al
   refine AD (λa w=>∃au:LI,au=aq∧∃(av:GH) (aw:Itm),GLe ai av∧Fr a 49 [(0,v0),(1,(iv x1)),(2,(iv x2)),(6,(iv ah))]∧Mem W av w (aw::H)∧Ow R0 2 av aw v0 au) ?_ ?_
   ·refine Ak ?_
    refine AB (λax a w=>∃ay:LI,∃az:Int,(ay,az)=ax∧∃(aA:GH) (aB:Itm),GLe ai aA∧Fr a 49 [(0,v0),(1,(iv x1)),(2,(iv x2)),(6,(iv ah)),(7,(iv az))]∧Mem W aA w (aB::H)∧Ow R0 2 aA aB v0 ay) ar ⟨_,_,Z,_,aj,gr,f.k Z,m,ao⟩ ?_
    clear ar f m
    rintro ax aC aD aE a w ⟨ay,az,rfl,aA,aB,aF,f,m,aG⟩
    refine Ah (Ah ?_)
    refine A1 15 AA (by kernel_rfl) m ?_
    refine Ag 0 15 Z f Z λa f=>Ag 1 15 Z f Z λa f=>q_p 2 15 Z f (λ_=>AE (f.e Z) (f.e Z) BV) λa f=>Ag 3 15 Z f Z λa f=> ?_
    have⟨aH,aI,aD⟩:=bind_some aD
    refine Bx (fuel':=0) (listed':= #[true,true,true,true,true,true,true,true,true,true,true,true,true,true,true]) (λa=>Fr a 49 [(0,v0),(1,(iv x1)),(2,(iv x2)),(6,(iv ah)),(7,(iv az)),(16,(iv az)),(17,(iv x1)),(18,(.bool (decide (x1<az)))),(19,(.bool (decide (x1<az)))),(30,(.bool aH))]) ?_ ?_
    ·intro a f
     refine AJ λaJ w aK m=> ?_
     have aG:=od1 aK aG
     refine Aa ?_
     rcases Ae aD with⟨aL,aD⟩|⟨aL,aD⟩
     ·refine Al f Z aL ?_
      refine Ao ?_
      refine Ah (Ak ?_)
      refine Bf AA m ?_
      refine p_p 2 Z f (λ_=>AH (f.e Z)) λa f=>p_p 3 Z f (λ_=>AH (f.e Z)) λa f=>p_p 4 Z f (λ_=>AE (f.e Z) (f.e Z) AC) λa f=>Bg 28015 12 (by kernel_rfl) Z ?_
      refine Ag 0 28015 Z f Z λa f=>Ag 1 28015 Z f Z λa f=>Ag 5 28015 Z f Z λa f=>Ag 6 28015 Z f Z λa f=>q_p 7 28015 Z f (λ_=>AE (f.e Z) (f.e Z) AC) λa f=> ?_
      have⟨aM,aN,aD⟩:=bind_some aD
      refine Ax 8 28015 0 m aG T39 aN Z f Z Z λaO a aP f=>AF 9 28015 0 aG Pl2 aP aN Z f Z λaQ a aR f=> ?_
      subst aR
      refine Ag 10 28015 Z f Z λa f=>Ag 11 28015 Z f Z λa f=> ?_
      have⟨aS,aT,aD⟩:=bind_some aD
      refine Ax 12 28015 0 m aG T39 aT Z f Z Z λaU a aV f=>AF 13 28015 0 aG Pl2 aV aT Z f Z λaW a aX f=> ?_
      subst aX
      have⟨aY,aZ,aD⟩:=bind_some aD
      refine Ax 14 28015 0 m aG T39 aZ Z f Z Z λa0 a a1 f=>AJ λa2 w a3 m=> ?_
      have aG:=od1 a3 aG
      refine Au 0 m aG Z sizeOf2 f Z Z a1 aZ Z Z Z λa4 w m a5=> ?_
      have⟨a6,a7,aD⟩:=bind_some aD
      refine AV 0 m a5 Z T39 f Z Z Z a7 λa8 a a9 f=>Au 0 m a5 Z sizeOf2 f Z Z a9 a7 Z Z Z λba w m bb=>Aa (Am ?_)
      refine Ab f Z λa f=>Ai f Z Z AC λa f=>Ac f Z λa f=>Aa ?_
      obtain rfl:=sj aD
      exact⟨_,Z,_,_,Z,_,ba,(gt aF (gt aK a3)),f.k Z,m,bb⟩
     ·refine Aj f Z aL ?_
      refine Ay Z ?_
      obtain rfl:=sj aD
      obtain rfl:=aE _ rfl
      exact⟨_,Z,_,aB,(gt aF aK),f.k Z,m,aG⟩
    ·intro bc
     rcases Ae aI with⟨bd,aI⟩|⟨bd,aI⟩
     ·refine Ag (hw:=wo f bd) 4 15 Z f Z λa f=> ?_
      refine Ag (hw:=wo f bd) 5 15 Z f Z λa f=> ?_
      have⟨be,bf,aI⟩:=bind_some aI
      refine Ax (hw:=wo f bd) 6 15 0 m aG T39 bf Z f Z Z λbg a bh f=>AF (hw:=wo f bd) 7 15 0 aG Pl2 bh bf Z f Z λbi a bj f=> ?_
      subst bj
      refine Ag (hw:=wo f bd) 8 15 Z f Z λa f=>Ag (hw:=wo f bd) 9 15 Z f Z λa f=>q_p (hw:=wo f bd) 10 15 Z f (λ_=>AE (f.e Z) (f.e Z) AC) λa f=> ?_
      have⟨bk,bl,aI⟩:=bind_some aI
      refine Ax (hw:=wo f bd) 11 15 0 m aG T39 bl Z f Z Z λbm a bn f=>AF (hw:=wo f bd) 12 15 0 aG Pl2 bn bl Z f Z λbo a bp f=> ?_
      subst bp
      have⟨bq,br,aI⟩:=bind_some aI
      refine Bb (i:=13) 15 Z (by kernel_rfl) Z f (AZ f Z Z Z bd) Z Z call92 (λ_ _ w bs m=>Wk.c m br) λa f=>q_p 14 15 Z f (λ_=>AO (f.e Z) bd (f.e Z)) λa f=> ?_
      obtain rfl:=sj aI
      exact bc _ (f.k Z)
     ·refine An 4 15 Z f bd λa f=> ?_
      refine An 5 15 Z f bd λa f=>An 6 15 Z f bd λa f=>An 7 15 Z f bd λa f=>An 8 15 Z f bd λa f=>An 9 15 Z f bd λa f=>An 10 15 Z f bd λa f=>An 11 15 Z f bd λa f=>An 12 15 Z f bd λa f=>An 13 15 Z f bd λa f=>q_p 14 15 Z f (λ_=>AP (f.e Z) bd (f.e Z)) λa f=> ?_
      obtain rfl:=sj aI
      exact bc _ (f.k Z)
   ·rintro a w ⟨au,rfl,av,aw,bt,f,m,bu⟩
    refine Am ?_
    refine Ab f Z λa f=>Ai f Z Z Ar λa f=>Ac f Z λa f=>Aa ?_
    obtain rfl:=sj al
    exact⟨_,Z,_,_,Z,_,aw,(gt an bt),f.k Z,m,bu⟩
  ·refine Aj f Z ap ?_
   refine Ay Z ?_
   obtain rfl:=sj al
   obtain rfl:=am _ rfl
   exact⟨_,Z,_,aj,an,f.weak trivial,m,ao⟩
 ·rintro a w ⟨ac,rfl,ad,ae,bv,f,m,bw⟩
  obtain rfl:=sj hd
  exact⟨[],trivial,f.d,_,[ae],bv,m,_,Z,bw⟩
theorem Wk.f0 {v0:Value}{it0:Itm}{x0:LI}{x1 x2 x3:Int}(m:Mem W G w (it0::H))(o0:Ow R0 2 G it0 v0 x0){y:(LI)}(hd:D.f0 x0 x1 x2 x3=some y):
  Calls prog 106 #[v0,(iv x1),(iv x2),(iv x3)] w (Res W G H (λG' Ho _=>∃i0:Itm,Ho=[i0]∧Ow R0 2 G' i0 v0 y)):=by
 refine As (args:=[v0,(iv x1),(iv x2),(iv x3)]) (N:=76) [] func106 Z Z (lb Z) Z λa f=> ?_
 unfold D.f0 at hd
 refine Af ?_
 refine Ab f Z λa f=>Ac f Z λa f=>Aa ?_
 have⟨aa,ab,hd⟩:=bind_some hd
 refine AD (λa w=>∃q_182':LI,aa= .inl q_182'∧∃ac:LI,ac=q_182'∧∃(ad:GH) (ae:Itm),GLe G ad∧Fr a 76 []∧Mem W ad w (ae::H)∧Ow R0 2 ad ae v0 ac) ?_ ?_
 ·refine Ak ?_
  refine AB (λaf a w=>∃ag:LI,∃ah:Int,(ag,ah)=af∧∃(ai:GH) (aj:Itm),GLe G ai∧Fr a 76 [(0,v0),(2,(iv x2)),(3,(iv x3)),(8,(iv ah))]∧Mem W ai w (aj::H)∧Ow R0 2 ai aj v0 ag) ab ⟨_,_,Z,_,it0,gr,f.k Z,m,o0⟩ ?_
  clear ab f m
  rintro af ak al am a w ⟨ag,ah,rfl,ai,aj,an,f,m,ao⟩
  refine Ak (Af ?_)
  refine Ab f Z λa f=>Ai f Z Z B6 λa f=>Ai f Z Z Ar λa f=>Ac f Z λa f=>Aa (Ah (Af ?_))
  refine Ab f Z λa f=>Ab f Z λa f=>Ai f Z Z Br λa f=>Aa ?_
  rcases Ae al with⟨ap,al⟩|⟨ap,al⟩
  ·refine Al f Z ap ?_
   refine Ay Z ?_
   obtain rfl:=sj al
   obtain rfl:=am _ rfl
   exact⟨_,Z,_,Z,_,aj,an,f.weak trivial,m,ao⟩
  ·refine Aj f Z ap ?_
   refine Ao ?_
   refine Ah (Ah ?_)
   refine A1 20 AA (by kernel_rfl) m ?_
   refine Ag 0 20 Z f Z λa f=>q_p 1 20 Z f (λ_=>AE (f.e Z) (f.e Z) Ar) λa f=>Ag 2 20 Z f Z λa f=>q_p 3 20 Z f (λ_=>AE (f.e Z) (f.e Z) AT) λa f=>Ag 4 20 Z f Z λa f=> ?_
   have⟨aq,ar,al⟩:=bind_some al
   refine Bx (fuel':=0) (listed':= #[true,true,true,true,true,true,true,true,true,true,true,true,true,true,true,true,true,true,true,true]) (λa=>Fr a 76 [(0,v0),(2,(iv x2)),(3,(iv x3)),(8,(iv ah)),(9,(iv (i64.wrap ((i64.wrap (2*ah))+1)))),(16,(.bool (decide (x2≤(i64.wrap ((i64.wrap (2*ah))+1)))))),(17,(iv (i64.wrap ((i64.wrap (2*ah))+1)))),(18,(iv (i64.wrap ((i64.wrap ((i64.wrap (2*ah))+1))+1)))),(19,(iv x2)),(20,(.bool (decide ((i64.wrap ((i64.wrap ((i64.wrap (2*ah))+1))+1))<x2)))),(21,(.bool (decide ((i64.wrap ((i64.wrap ((i64.wrap (2*ah))+1))+1))<x2)))),(36,(.bool aq))]) ?_ ?_
   ·intro a f
    refine AJ λau w av m=> ?_
    have ao:=od1 av ao
    refine Aa ?_
    have⟨aw,ax,al⟩:=bind_some al
    refine AD (λa w=>∃ay:Int,ay=aw∧∃(az:GH),GLe au az∧Fr a 76 [(0,v0),(2,(iv x2)),(3,(iv x3)),(8,(iv ah)),(9,(iv ay))]∧Mem W az w (aj::H)) ?_ ?_
    ·rcases Ae ax with⟨aA,ax⟩|⟨aA,ax⟩
     ·refine Al f Z aA ?_
      refine Am ?_
      refine Ab f Z λa f=>Ai f Z Z Ar λa f=>Ac f Z λa f=>Aa ?_
      obtain rfl:=sj ax
      exact⟨_,Z,_,gr,f.k Z,m⟩
     ·refine Aj f Z aA ?_
      refine Ao ?_
      obtain rfl:=sj ax
      exact⟨_,Z,_,gr,f.k Z,m⟩
    ·rintro a w ⟨ay,rfl,az,aB,f,m⟩
     have ao:=od1 aB ao
     refine Ah (Ah ?_)
     refine A1 14 AA (by kernel_rfl) m ?_
     refine Ag 0 14 Z f Z λa f=>Ag 1 14 Z f Z λa f=>Ag 2 14 Z f Z λa f=>q_p 3 14 Z f (λ_=>AE (f.e Z) (f.e Z) Ar) λa f=> ?_
     have⟨aC,aD,al⟩:=bind_some al
     refine Ax 4 14 0 m ao T39 aD Z f Z Z λaE a aF f=>AF 5 14 0 ao Pl2 aF aD Z f Z λaG a aH f=> ?_
     subst aH
     refine Ag 6 14 Z f Z λa f=>Ag 7 14 Z f Z λa f=>Ag 8 14 Z f Z λa f=>q_p 9 14 Z f (λ_=>AE (f.e Z) (f.e Z) Ar) λa f=> ?_
     have⟨aI,aJ,al⟩:=bind_some al
     refine Ax 10 14 0 m ao T39 aJ Z f Z Z λaK a aL f=>AF 11 14 0 ao Pl2 aL aJ Z f Z λaM a aN f=> ?_
     subst aN
     have⟨aO,aP,al⟩:=bind_some al
     refine Bb (i:=12) 14 Z (by kernel_rfl) Z f Z Z Z call92 (λ_ _ w aQ m=>Wk.c m aP) λa f=>q_p 13 14 Z f (λ_=>Be (f.e Z)) λa f=>AJ λaR w aS m=> ?_
     have ao:=od1 aS ao
     refine Aa ?_
     rcases Ae al with⟨aT,al⟩|⟨aT,al⟩
     ·refine Al f Z aT ?_
      refine Ap ?_
      obtain rfl:=sj al
      obtain rfl:=am _ rfl
      obtain rfl:=sj hd
      exact⟨[],trivial,f.d,_,[aj],(gt an (gt av (gt aB aS))),m,_,Z,ao⟩
     ·refine Aj f Z aT ?_
      refine Ao ?_
      refine Ah ?_
      refine Bf AA m ?_
      refine p_p 4 Z f (λ_=>AH (f.e Z)) λa f=>p_p 5 Z f (λ_=>AH (f.e Z)) λa f=>p_p 6 Z f (λ_=>AH (f.e Z)) λa f=>p_p 7 Z f (λ_=>AE (f.e Z) (f.e Z) Ar) λa f=>Bg 240021 17 (by kernel_rfl) Z ?_
      refine Ag 0 240021 Z f Z λa f=>Ag 1 240021 Z f Z λa f=>Ag 2 240021 Z f Z λa f=>q_p 3 240021 Z f (λ_=>AE (f.e Z) (f.e Z) Ar) λa f=>Ag 8 240021 Z f Z λa f=>Ag 9 240021 Z f Z λa f=>Ag 10 240021 Z f Z λa f=>q_p 11 240021 Z f (λ_=>AE (f.e Z) (f.e Z) Ar) λa f=> ?_
      have⟨aU,aV,al⟩:=bind_some al
      refine Ax 12 240021 0 m ao T39 aV Z f Z Z λaW a aX f=>AF 13 240021 0 ao Pl2 aX aV Z f Z λaY a aZ f=> ?_
      subst aZ
      refine Ag 14 240021 Z f Z λa f=>Ag 15 240021 Z f Z λa f=>Ag 16 240021 Z f Z λa f=>q_p 17 240021 Z f (λ_=>AE (f.e Z) (f.e Z) Ar) λa f=> ?_
      have⟨a0,a1,al⟩:=bind_some al
      refine Ax 18 240021 0 m ao T39 a1 Z f Z Z λa2 a a3 f=>AF 19 240021 0 ao Pl2 a3 a1 Z f Z λa4 a a5 f=> ?_
      subst a5
      have⟨a6,a7,al⟩:=bind_some al
      refine Ax 20 240021 0 m ao T39 a7 Z f Z Z λa8 a a9 f=>AJ λba w bb m=> ?_
      have ao:=od1 bb ao
      refine Au 0 m ao Z sizeOf2 f Z Z a9 a7 Z Z Z λbc w m bd=> ?_
      have⟨be,bf,al⟩:=bind_some al
      refine AV 0 m bd Z T39 f Z Z Z bf λbg a bh f=>Au 0 m bd Z sizeOf2 f Z Z bh bf Z Z Z λbi w m bj=>Aa (Am ?_)
      refine Ab f Z λa f=>Ac f Z λa f=>Aa ?_
      obtain rfl:=sj al
      exact⟨_,Z,_,_,Z,_,bi,(gt an (gt av (gt aB (gt aS bb)))),f.k Z,m,bj⟩
   ·intro bk
    rcases Ae ar with⟨bl,ar⟩|⟨bl,ar⟩
    ·refine Ag (hw:=wo f bl) 5 20 Z f Z λa f=> ?_
     refine Ag (hw:=wo f bl) 6 20 Z f Z λa f=>Ag (hw:=wo f bl) 7 20 Z f Z λa f=>q_p (hw:=wo f bl) 8 20 Z f (λ_=>AE (f.e Z) (f.e Z) Ar) λa f=> ?_
     have⟨bm,bn,ar⟩:=bind_some ar
     refine Ax (hw:=wo f bl) 9 20 0 m ao T39 bn Z f Z Z λbo a bp f=>AF (hw:=wo f bl) 10 20 0 ao Pl2 bp bn Z f Z λbq a br f=> ?_
     subst br
     refine Ag (hw:=wo f bl) 11 20 Z f Z λa f=>Ag (hw:=wo f bl) 12 20 Z f Z λa f=>Ag (hw:=wo f bl) 13 20 Z f Z λa f=>q_p (hw:=wo f bl) 14 20 Z f (λ_=>AE (f.e Z) (f.e Z) Ar) λa f=>q_p (hw:=wo f bl) 15 20 Z f (λ_=>AE (f.e Z) (f.e Z) Ar) λa f=> ?_
     have⟨bs,bt,ar⟩:=bind_some ar
     refine Ax (hw:=wo f bl) 16 20 0 m ao T39 bt Z f Z Z λbu a bv f=>AF (hw:=wo f bl) 17 20 0 ao Pl2 bv bt Z f Z λbw a bx f=> ?_
     subst bx
     have⟨bz,bA,ar⟩:=bind_some ar
     refine Bb (i:=18) 20 Z (by kernel_rfl) Z f (AZ f Z Z Z bl) Z Z call92 (λ_ _ w bB m=>Wk.c m bA) λa f=>q_p 19 20 Z f (λ_=>AO (f.e Z) bl (f.e Z)) λa f=> ?_
     obtain rfl:=sj ar
     exact bk _ (f.k Z)
    ·refine An 5 20 Z f bl λa f=> ?_
     refine An 6 20 Z f bl λa f=>An 7 20 Z f bl λa f=>An 8 20 Z f bl λa f=>An 9 20 Z f bl λa f=>An 10 20 Z f bl λa f=>An 11 20 Z f bl λa f=>An 12 20 Z f bl λa f=>An 13 20 Z f bl λa f=>An 14 20 Z f bl λa f=>An 15 20 Z f bl λa f=>An 16 20 Z f bl λa f=>An 17 20 Z f bl λa f=>An 18 20 Z f bl λa f=>q_p 19 20 Z f (λ_=>AP (f.e Z) bl (f.e Z)) λa f=> ?_
     obtain rfl:=sj ar
     exact bk _ (f.k Z)
 ·rintro a w ⟨_,rfl,ac,rfl,ad,ae,bC,f,m,bD⟩
  obtain rfl:=sj hd
  exact⟨[],trivial,f.d,_,[ae],bC,m,_,Z,bD⟩
theorem Wk.I0 {v0:Value}{it0:Itm}{x0:LI}{x1 x2:Int}(m:Mem W G w (it0::H))(o0:Ow R0 2 G it0 v0 x0){y:(LI)}(hd:D.I0 x0 x1 x2=some y):
  Calls prog 87 #[v0,(iv x1),(iv x2)] w (Res W G H (λG' Ho _=>∃i0:Itm,Ho=[i0]∧Ow R0 2 G' i0 v0 y)):=by
 refine As (args:=[v0,(iv x1),(iv x2)]) (N:=56) [] func87 Z Z (lb Z) Z λa f=> ?_
 unfold D.I0 at hd
 refine Af ?_
 refine Ab f Z λa f=>Ac f Z λa f=>Aw ?_
 refine Ac f Z λa f=>Aw ?_
 refine Ab f Z λa f=>Ab f Z λa f=>Ai f Z Z AC λa f=>Ac f Z λa f=>Aa (Ah (Af ?_))
 refine Ab f Z λa f=>Ai f Z Z AC λa f=>Ai f Z Z (Cg Z) λa f=>Ac f Z λa f=>Aa ?_
 have⟨aa,ab,hd⟩:=bind_some hd
 refine AD (λa w=>∃ac:LI,ac=aa∧∃(ad:GH) (ae:Itm),GLe G ad∧Fr a 56 [(0,v0),(6,(iv x1)),(7,(iv 0)),(8,(iv (i64.wrap (x2-x1))))]∧Mem W ad w (ae::H)∧Ow R0 2 ad ae v0 ac) ?_ ?_
 ·refine Ak ?_
  refine AB (λaf a w=>∃ag:LI,∃ah:Int,(ag,ah)=af∧∃(ai:GH) (aj:Itm),GLe G ai∧Fr a 56 [(0,v0),(6,(iv x1)),(7,(iv 0)),(8,(iv (i64.wrap (x2-x1)))),(9,(iv ah))]∧Mem W ai w (aj::H)∧Ow R0 2 ai aj v0 ag) ab ⟨_,_,Z,_,it0,gr,f.k Z,m,o0⟩ ?_
  clear ab f m
  rintro af ak al am a w ⟨ag,ah,rfl,ai,aj,an,f,m,ao⟩
  refine Ah (Af ?_)
  refine Ab f Z λa f=>Ai f Z Z Br λa f=>Aa ?_
  rcases Ae al with⟨ap,al⟩|⟨ap,al⟩
  ·refine Al f Z ap ?_
   refine Ao ?_
   refine Ah (Ak (Am ?_))
   refine Ab f Z λa f=>Ab f Z λa f=>Ab f Z λa f=>Ab f Z λa f=> ?_
   have⟨aq,ar,al⟩:=bind_some al
   refine AM f Z call106 (Wk.f0 m ao ar) λau av aw w ax m ay a f=> ?_
   obtain⟨az,rfl,aA⟩:=ay
   refine Aa (Am ?_)
   refine Ab f Z λa f=>Ai f Z Z AC λa f=>Ac f Z λa f=>Aa ?_
   obtain rfl:=sj al
   exact⟨_,Z,_,_,Z,_,az,(gt an ax),f.k Z,m,aA⟩
  ·refine Aj f Z ap ?_
   refine Ay Z ?_
   obtain rfl:=sj al
   obtain rfl:=am _ rfl
   exact⟨_,Z,_,aj,an,f.k Z,m,ao⟩
 ·rintro a w ⟨ac,rfl,ad,ae,aB,f,m,aC⟩
  refine Af ?_
  refine Ab f Z λa f=>Ai f Z Z AC λa f=>Ac f Z λa f=>Aa ?_
  have⟨aD,aE,hd⟩:=bind_some hd
  refine AD (λa w=>∃aF:LI,aF=aD∧∃(aG:GH) (aH:Itm),GLe ad aG∧Fr a 56 []∧Mem W aG w (aH::H)∧Ow R0 2 aG aH v0 aF) ?_ ?_
  ·refine Ak ?_
   refine AB (λaI a w=>∃aJ:LI,∃aK:Int,(aJ,aK)=aI∧∃(aL:GH) (aM:Itm),GLe ad aL∧Fr a 56 [(0,v0),(6,(iv x1)),(7,(iv 0)),(10,(iv aK))]∧Mem W aL w (aM::H)∧Ow R0 2 aL aM v0 aJ) aE ⟨_,_,Z,_,ae,gr,f.k Z,m,aC⟩ ?_
   clear aE f m
   rintro aI aN aO aP a w ⟨aJ,aK,rfl,aL,aM,aQ,f,m,aR⟩
   refine Ah (Af ?_)
   refine Ab f Z λa f=>Ai f Z Z Br λa f=>Aa ?_
   rcases Ae aO with⟨aS,aO⟩|⟨aS,aO⟩
   ·refine Al f Z aS ?_
    refine Ao ?_
    refine Ah (Ak (Ah ?_))
    refine Bf AA m ?_
    refine p_p 2 Z f (λ_=>AH (f.e Z)) λa f=>p_p 3 Z f (λ_=>AH (f.e Z)) λa f=>p_p 4 Z f (λ_=>AH (f.e Z)) λa f=>p_p 5 Z f (λ_=>AE (f.e Z) (f.e Z) Ar) λa f=>Bg 60017 13 (by kernel_rfl) Z ?_
    refine Ag 0 60017 Z f Z λa f=>Ag 1 60017 Z f Z λa f=>Ag 6 60017 Z f Z λa f=>Ag 7 60017 Z f Z λa f=>Ag 8 60017 Z f Z λa f=>q_p 9 60017 Z f (λ_=>AE (f.e Z) (f.e Z) Ar) λa f=> ?_
    have⟨aT,aU,aO⟩:=bind_some aO
    refine Ax 10 60017 0 m aR T39 aU Z f Z Z λaV a aW f=>AF 11 60017 0 aR Pl2 aW aU Z f Z λaX a aY f=> ?_
    subst aY
    refine Ag 12 60017 Z f Z λa f=>Ag 13 60017 Z f Z λa f=> ?_
    have⟨aZ,a0,aO⟩:=bind_some aO
    refine Ax 14 60017 0 m aR T39 a0 Z f Z Z λa1 a a2 f=>AF 15 60017 0 aR Pl2 a2 a0 Z f Z λa3 a a4 f=> ?_
    subst a4
    have⟨a5,a6,aO⟩:=bind_some aO
    refine Ax 16 60017 0 m aR T39 a6 Z f Z Z λa7 a a8 f=>AJ λa9 w ba m=> ?_
    have aR:=od1 ba aR
    refine Au 0 m aR Z sizeOf2 f Z Z a8 a6 Z Z Z λbb w m bc=> ?_
    have⟨bd,be,aO⟩:=bind_some aO
    refine AV 0 m bc Z T39 f Z Z Z be λbf a bg f=>Au 0 m bc Z sizeOf2 f Z Z bg be Z Z Z λbh w m bi=>Aa (Am ?_)
    refine Ab f Z λa f=>Ab f Z λa f=>Ab f Z λa f=>Ab f Z λa f=> ?_
    have⟨bj,bk,aO⟩:=bind_some aO
    refine AM f Z call106 (Wk.f0 m bi bk) λbl bm bn w bo m bp a f=> ?_
    obtain⟨bq,rfl,br⟩:=bp
    refine Aa (Am ?_)
    refine Ab f Z λa f=>Ai f Z Z AC λa f=>Ac f Z λa f=>Aa ?_
    obtain rfl:=sj aO
    exact⟨_,Z,_,_,Z,_,bq,(gt aQ (gt ba bo)),f.k Z,m,br⟩
   ·refine Aj f Z aS ?_
    refine Ay Z ?_
    obtain rfl:=sj aO
    obtain rfl:=aP _ rfl
    exact⟨_,Z,_,aM,aQ,f.weak trivial,m,aR⟩
  ·rintro a w ⟨aF,rfl,aG,aH,bs,f,m,bt⟩
   obtain rfl:=sj hd
   exact⟨[],trivial,f.d,_,[aH],(gt aB bs),m,_,Z,bt⟩
theorem Wk.X {x0:Int}(m:Mem W G w (H)){y:Int}(hd:D.X x0=some y):
  Calls prog 107 #[(iv x0)] w (Res W G H (λ_ Ho v=>Ho=[]∧v=(.int .u64 y))):=by
 refine As (args:=[(iv x0)]) (N:=7) [.tmp 2] func107 Z Z (lb Z) Z λa f=> ?_
 unfold D.X at hd
 refine Af ?_
 refine Ac f Z λa f=>Aw ?_
 refine Ab f Z λa f=>l_o f (Cb (f.e Z) ⟨_,underlying3⟩ underlying68) λa f=> ?_
 have⟨aa,ab,hd⟩:=bind_some hd
 refine AM f Z call83 (Wk.C m ab) λac ad ae w af m ag a f=> ?_
 obtain⟨rfl,rfl⟩:=ag
 obtain⟨ah,hd⟩:=BY hd
 refine l_o f (DB (f.e Z) (f.e Z) ah) λa f=>Ac f Z λa f=>Aa ?_
 refine Ap ?_
 obtain rfl:=sj hd
 exact⟨[(.int .u64 (ishl .u64 1 aa))],f.g Z,f.d,_,[],af,m,Z,Z⟩
theorem Wk.a0 {b0:Nat}{aa:Int}(m:Mem W G w (ib b0 127 [(.int .u64 aa)]::H)){y:Int×Int}(hd:D.a0 aa=some y):
  Calls prog 108 #[(pb b0)] w (Res W G H (λ_ Ho v=>Ho=[ib b0 127 [(.int .u64 y.2)]]∧v=(.int .u64 y.1))):=by
 refine As (args:=[(pb b0)]) (N:=33) [.tmp 2] func108 Z Z (lb Z) Z λa f=> ?_
 unfold D.a0 at hd
 refine Af ?_
 refine Ac f Z λa f=>Aa (Ah ?_)
 refine A1 9 AA (by kernel_rfl) m ?_
 refine Ag 0 9 Z f Z λa f=>q_p 1 9 Z f (λ_=>Bt (f.e Z)) λa f=>CD 2 9 0 Pl127 Z Z Z f Z λa f=>Ag 3 9 Z f Z λa f=>q_p 4 9 Z f (λ_=>Bt (f.e Z)) λa f=>CD 5 9 0 Pl127 Z Z Z f Z λa f=>q_p 6 9 Z f (λ_=>DB (f.e Z) (f.e Z) (by decide)) λa f=>q_p 7 9 Z f (λ_=>AE (f.e Z) (f.e Z) b_xor) λa f=>q_p 8 9 Z f (λ_=>Bt (f.e Z)) λa f=>AJ λab w ac m=>Bk 0 0 (ds:=[(.int .u64 (A9 .u64 aa (ishl .u64 aa 13)))]) m sizeOf127 f Z Z Z (Bi Z BA) Z (lb Z) Z λw m=>Aa (Ah ?_)
 refine A1 9 AA (by kernel_rfl) m ?_
 refine Ag 0 9 Z f Z λa f=>q_p 1 9 Z f (λ_=>Bt (f.e Z)) λa f=>CD 2 9 0 Pl127 Z Z Z f Z λa f=>Ag 3 9 Z f Z λa f=>q_p 4 9 Z f (λ_=>Bt (f.e Z)) λa f=>CD 5 9 0 Pl127 Z Z Z f Z λa f=>q_p 6 9 Z f (λ_=>r_shr (f.e Z) (f.e Z) (by decide)) λa f=>q_p 7 9 Z f (λ_=>AE (f.e Z) (f.e Z) b_xor) λa f=>q_p 8 9 Z f (λ_=>Bt (f.e Z)) λa f=>AJ λad w ae m=>Bk 0 0 (ds:=[(.int .u64 (A9 .u64 (A9 .u64 aa (ishl .u64 aa 13)) (Bn .u64 (A9 .u64 aa (ishl .u64 aa 13)) 7)))]) m sizeOf127 f Z Z Z (Bi Z BA) Z (lb Z) Z λw m=>Aa (Ah ?_)
 refine A1 9 AA (by kernel_rfl) m ?_
 refine Ag 0 9 Z f Z λa f=>q_p 1 9 Z f (λ_=>Bt (f.e Z)) λa f=>CD 2 9 0 Pl127 Z Z Z f Z λa f=>Ag 3 9 Z f Z λa f=>q_p 4 9 Z f (λ_=>Bt (f.e Z)) λa f=>CD 5 9 0 Pl127 Z Z Z f Z λa f=>q_p 6 9 Z f (λ_=>DB (f.e Z) (f.e Z) (by decide)) λa f=>q_p 7 9 Z f (λ_=>AE (f.e Z) (f.e Z) b_xor) λa f=>q_p 8 9 Z f (λ_=>Bt (f.e Z)) λa f=>AJ λaf w ag m=>Bk 0 0 (ds:=[(.int .u64 (A9 .u64 (A9 .u64 (A9 .u64 aa (ishl .u64 aa 13)) (Bn .u64 (A9 .u64 aa (ishl .u64 aa 13)) 7)) (ishl .u64 (A9 .u64 (A9 .u64 aa (ishl .u64 aa 13)) (Bn .u64 (A9 .u64 aa (ishl .u64 aa 13)) 7)) 17)))]) m sizeOf127 f Z Z Z (Bi Z BA) Z (lb Z) Z λw m=>Aw ?_
 refine Ab f Z λa f=>l_o f (Bt (f.e Z)) λa f=>AS 0 0 m Pl127 f Z Z Z Z λa f=>Ac f Z λa f=>Aa ?_
 refine Ap ?_
 obtain rfl:=sj hd
 exact⟨[(.int .u64 (A9 .u64 (A9 .u64 (A9 .u64 aa (ishl .u64 aa 13)) (Bn .u64 (A9 .u64 aa (ishl .u64 aa 13)) 7)) (ishl .u64 (A9 .u64 (A9 .u64 aa (ishl .u64 aa 13)) (Bn .u64 (A9 .u64 aa (ishl .u64 aa 13)) 7)) 17)))],f.g Z,f.d,_,[ib b0 127 [(.int .u64 (A9 .u64 (A9 .u64 (A9 .u64 aa (ishl .u64 aa 13)) (Bn .u64 (A9 .u64 aa (ishl .u64 aa 13)) 7)) (ishl .u64 (A9 .u64 (A9 .u64 aa (ishl .u64 aa 13)) (Bn .u64 (A9 .u64 aa (ishl .u64 aa 13)) 7)) 17)))]],(gt ac (gt ae ag)),m,Z,Z⟩
theorem Wk.u0 {v0:Value}{it0:Itm}{x0:LI}{x1 x2:Int}(m:Mem W G w (it0::H))(o0:Ow R0 2 G it0 v0 x0){y:(LI)}(hd:D.u0 x0 x1 x2=some y):
  Calls prog 88 #[v0,(iv x1),(iv x2)] w (Res W G H (λG' Ho _=>∃i0:Itm,Ho=[i0]∧Ow R0 2 G' i0 v0 y)):=by
 refine As (args:=[v0,(iv x1),(iv x2)]) (N:=65) [] func88 Z Z (lb Z) Z λa f=> ?_
 unfold D.u0 at hd
 refine Af ?_
 refine Ab f Z λa f=>Ab f Z λa f=>Ai f Z Z AC λa f=>Ac f Z λa f=>Aw ?_
 refine Ab f Z λa f=>Ai f Z Z Br λa f=>Aa ?_
 rcases Ae hd with⟨aa,hd⟩|⟨aa,hd⟩
 ·refine Al f Z aa ?_
  refine Af ?_
  refine Ab f Z λa f=>l_o f (Cb (f.e Z) ⟨_,underlying3⟩ underlying127) λa f=>B9 (cs:=[(.int .u64 0)]) zeroValue127 m f Z Z λab w a m f=>Bk 0 0 (ds:=[(.int .u64 (IntKind.u64.wrap (i64.wrap (x2-x1))))]) m sizeOf127 f Z Z Z (Bi Z BA) Z (lb Z) Z λw m=>Aw ?_
  refine Ab f Z λa f=> ?_
  have⟨ac,ad,hd⟩:=bind_some hd
  refine Ba f Z call107 (Wk.X m ad) λae w af m a f=> ?_
  have o0:=od1 af o0
  refine Ac f Z λa f=>Aw ?_
  refine Ab f Z λa f=>Ab f Z λa f=>Ai f Z Z (Cg Z) λa f=>Ai f Z Z B6 λa f=>Ai f Z Z Ar λa f=>Ai f Z Z AC λa f=>Ac f Z λa f=>Aa ?_
  have⟨ag,ah,hd⟩:=bind_some hd
  refine AD (λa w=>∃ai:LI,ai=ag∧∃(aj:GH) (ak:Itm),GLe ae aj∧Fr a 65 []∧Mem W aj w (ak::H)∧Ow R0 2 aj ak v0 ai) ?_ ?_
  ·refine Ak ?_
   refine AB (λal a w=>∃am:LI,∃an:Int,∃ao:Int,(am,an,ao)=al∧∃(ap:GH) (aq:Itm),GLe ae ap∧Fr a 65 [(0,v0),(1,(iv x1)),(6,(iv (i64.wrap (x2-x1)))),(7,(pb ab)),(8,(.int .u64 ac)),(9,(iv an))]∧Mem W ap w (ib ab 127 [(.int .u64 ao)]::aq::H)∧Ow R0 2 ap aq v0 am) ah ⟨_,_,_,Z,_,it0,gr,f.k Z,m,o0⟩ ?_
   clear ah f m
   rintro al ar au av a w ⟨am,an,ao,rfl,ap,aq,aw,f,m,ax⟩
   refine Ah (Af ?_)
   refine Ab f Z λa f=>Ab f Z λa f=>Ab f Z λa f=>Ai f Z Z (Cg Z) λa f=>Ai f Z Z B6 λa f=>Ai f Z Z Ar λa f=>Ai f Z Z Ar λa f=>Ai f Z Z BW λa f=>Aa ?_
   rcases Ae au with⟨ay,au⟩|⟨ay,au⟩
   ·refine Al f Z ay ?_
    refine Ao ?_
    refine Ah (Ak (Af ?_))
    have⟨az,aA,au⟩:=bind_some au
    refine AM f Z call108 (Wk.a0 m aA) λaB aC aD w aE m aF a f=> ?_
    obtain⟨rfl,rfl⟩:=aF
    have ax:=od1 aE ax
    refine Ab f Z λa f=>Ai f Z Z AC λa f=>Ai f Z Z Cv λa f=>l_o f (Cb (f.e Z) ⟨_,underlying68⟩ underlying3) λa f=>Ac f Z λa f=>Aa (Ah (Af ?_))
    refine Ab f Z λa f=>Ab f Z λa f=>Ai f Z Z Br λa f=>Aa ?_
    have⟨aG,aH,au⟩:=bind_some au
    refine AD (λa w=>∃aI:Int,aI=aG∧∃(aJ:GH),GLe aC aJ∧Fr a 65 [(0,v0),(1,(iv x1)),(6,(iv (i64.wrap (x2-x1)))),(7,(pb ab)),(8,(.int .u64 ac)),(9,(iv an)),(10,(iv aI))]∧Mem W aJ w (ib ab 127 [(.int .u64 az.2)]::aq::H)) ?_ ?_
    ·rcases Ae aH with⟨aK,aH⟩|⟨aK,aH⟩
     ·refine Al f Z aK ?_
      refine Am ?_
      refine Ab f Z λa f=>Ab f Z λa f=>Ai f Z Z AC λa f=>Ac f Z λa f=>Aa ?_
      obtain rfl:=sj aH
      exact⟨_,Z,_,gr,f.k Z,m⟩
     ·refine Aj f Z aK ?_
      refine Ao ?_
      obtain rfl:=sj aH
      exact⟨_,Z,_,gr,f.k Z,m⟩
    ·rintro a w ⟨aI,rfl,aJ,aL,f,m⟩
     have ax:=od1 aL ax
     refine Bf AA m ?_
     refine p_p 2 Z f (λ_=>AH (f.e Z)) λa f=>p_p 3 Z f (λ_=>AH (f.e Z)) λa f=>p_p 4 Z f (λ_=>AH (f.e Z)) λa f=>p_p 5 Z f (λ_=>AE (f.e Z) (f.e Z) Ar) λa f=>Bg 60017 13 (by kernel_rfl) Z ?_
     refine Ag 0 60017 Z f Z λa f=>Ag 1 60017 Z f Z λa f=>Ag 6 60017 Z f Z λa f=>Ag 7 60017 Z f Z λa f=>Ag 8 60017 Z f Z λa f=>q_p 9 60017 Z f (λ_=>AE (f.e Z) (f.e Z) Ar) λa f=> ?_
     have⟨aM,aN,au⟩:=bind_some au
     refine Ax 10 60017 1 m ax T39 aN Z f Z Z λaO a aP f=>AF 11 60017 1 ax Pl2 aP aN Z f Z λaQ a aR f=> ?_
     subst aR
     refine Ag 12 60017 Z f Z λa f=>Ag 13 60017 Z f Z λa f=> ?_
     have⟨aS,aT,au⟩:=bind_some au
     refine Ax 14 60017 1 m ax T39 aT Z f Z Z λaU a aV f=>AF 15 60017 1 ax Pl2 aV aT Z f Z λaW a aX f=> ?_
     subst aX
     have⟨aY,aZ,au⟩:=bind_some au
     refine Ax 16 60017 1 m ax T39 aZ Z f Z Z λa0 a a1 f=>AJ λa2 w a3 m=> ?_
     have ax:=od1 a3 ax
     refine Au 1 m ax Z sizeOf2 f Z Z a1 aZ Z Z Z λa4 w m a5=> ?_
     have⟨a6,a7,au⟩:=bind_some au
     refine AV 1 m a5 Z T39 f Z Z Z a7 λa8 a a9 f=>Au 1 m a5 Z sizeOf2 f Z Z a9 a7 Z Z Z λba w m bb=>Aa (Am ?_)
     refine Ab f Z λa f=>Ai f Z Z Ar λa f=>Ac f Z λa f=>Aa ?_
     obtain rfl:=sj au
     exact⟨_,Z,_,_,_,Z,_,ba,(gt aw (gt aE (gt aL a3))),f.k Z,m,bb⟩
   ·refine Aj f Z ay ?_
    refine Ay Z ?_
    have m:=m.fr 1
    have m:=m.eraseAt 1
    obtain rfl:=sj au
    obtain rfl:=av _ rfl
    exact⟨_,Z,_,aq,aw,f.weak trivial,m,ax⟩
  ·rintro a w ⟨ai,rfl,aj,ak,bc,f,m,bd⟩
   obtain rfl:=sj hd
   exact⟨[],trivial,f.d,_,[ak],(gt af bc),m,_,Z,bd⟩
 ·refine Aj f Z aa ?_
  refine Ao ?_
  obtain rfl:=sj hd
  exact⟨[],trivial,f.d,_,[it0],gr,m,_,Z,o0⟩
theorem Wk.L {v0:Value}{it0:Itm}{b3:Nat}{x0:LI}{x1 x2 aa:Int}(m:Mem W G w (it0::ib b3 3 [(iv aa)]::H))(o0:Ow R0 2 G it0 v0 x0){y:Int×Int×(LI)×Int}(hd:D.L x0 x1 x2 aa=some y):
  Calls prog 116 #[v0,(iv x1),(iv x2),(pb b3)] w (Res W G H (λG' Ho v=>∃i0:Itm,Ho=[i0,ib b3 3 [(iv y.2.2.2)]]∧v= .tuple #[(iv y.1),(iv y.2.1)]∧Ow R0 2 G' i0 v0 y.2.2.1)):=by
 refine As (args:=[v0,(iv x1),(iv x2),(pb b3)]) (N:=28) [.tmp 8,.tmp 9] func116 Z Z (lb Z) Z λa f=> ?_
 unfold D.L at hd
 refine Af ?_
 refine Ac f Z λa f=>Ac f Z λa f=>Aa (Ah (Ah ?_))
 refine A1 9 AA (by kernel_rfl) m ?_
 refine Ag 0 9 Z f Z λa f=>Ag 1 9 Z f Z λa f=> ?_
 have⟨ab,ac,hd⟩:=bind_some hd
 refine Ax 2 9 0 m o0 T39 ac Z f Z Z λad a ae f=>AF 3 9 0 o0 Pl2 ae ac Z f Z λaf a ag f=> ?_
 subst ag
 refine Ag 4 9 Z f Z λa f=>Ag 5 9 Z f Z λa f=> ?_
 have⟨ah,ai,hd⟩:=bind_some hd
 refine Ax 6 9 0 m o0 T39 ai Z f Z Z λaj a ak f=>AF 7 9 0 o0 Pl2 ak ai Z f Z λal a am f=> ?_
 subst am
 have⟨an,ao,hd⟩:=bind_some hd
 refine Bb (i:=8) 9 Z (by kernel_rfl) Z f Z Z Z call92 (λ_ _ w ap m=>Wk.c m ao) λa f=>AJ λaq w ar m=> ?_
 have o0:=od1 ar o0
 refine Aa ?_
 rcases Ae hd with⟨au,hd⟩|⟨au,hd⟩
 ·refine Al f Z au ?_
  refine Af ?_
  refine Ab f Z λa f=>l_o f (Bt (f.e Z)) λa f=>AS 1 0 m Pl3 f Z Z Z Z λa f=>Ai f Z Z Ar λa f=>l_o f (Bt (f.e Z)) λa f=>Bk 1 0 (ds:=[(iv (i64.wrap (aa+1)))]) m sizeOf3 f Z Z Z (Bi Z BA) Z (lb Z) Z λw m=>Aw ?_
  refine Ab f Z λa f=>Ab f Z λa f=>Ac f Z λa f=>Ac f Z λa f=>Aa ?_
  refine Ap ?_
  obtain rfl:=sj hd
  exact⟨[(iv x2),(iv x1)],⟨f.get _ _ Z,f.get _ _ Z,trivial⟩,f.d,_,[it0,ib b3 3 [(iv (i64.wrap (aa+1)))]],ar,m,_,Z,Z,o0⟩
 ·refine Aj f Z au ?_
  refine Ao ?_
  refine Af ?_
  refine Ab f Z λa f=>Ab f Z λa f=>Ac f Z λa f=>Ac f Z λa f=>Aa ?_
  refine Ap ?_
  obtain rfl:=sj hd
  exact⟨[(iv x1),(iv x2)],⟨f.get _ _ Z,f.get _ _ Z,trivial⟩,f.d,_,[it0,ib b3 3 [(iv aa)]],ar,m,_,Z,Z,o0⟩
theorem Wk.Y {v0:Value}{it0:Itm}{b4:Nat}{x0:LI}{x1 x2 x3 aa:Int}(m:Mem W G w (it0::ib b4 3 [(iv aa)]::H))(o0:Ow R0 2 G it0 v0 x0){y:Int×(LI)×Int}(hd:D.Y x0 x1 x2 x3 aa=some y):
  Calls prog 110 #[v0,(iv x1),(iv x2),(iv x3),(pb b4)] w (Res W G H (λG' Ho v=>∃i0:Itm,Ho=[i0,ib b4 3 [(iv y.2.2)]]∧v=(iv y.1)∧Ow R0 2 G' i0 v0 y.2.1)):=by
 refine As (args:=[v0,(iv x1),(iv x2),(iv x3),(pb b4)]) (N:=36) [.tmp 10] func110 Z Z (lb Z) Z λa f=> ?_
 unfold D.Y at hd
 refine Af ?_
 refine Ac f Z λa f=>Aw ?_
 refine Ab f Z λa f=>Ab f Z λa f=>Ab f Z λa f=>Ab f Z λa f=> ?_
 have⟨ab,ac,hd⟩:=bind_some hd
 refine AM f Z call116 (Wk.L m o0 ac) λad ae af w ag m ah a f=> ?_
 obtain⟨ai,rfl,rfl,aj⟩:=ah
 refine Ab f Z λa f=>l_o f (A6 (f.e Z) Z) λa f=>l_o f (A6 (f.e Z) Z) λa f=>Ac f Z λa f=>Ac f Z λa f=>Aw ?_
 refine Ab f Z λa f=>Ab f Z λa f=>Ab f Z λa f=>Ab f Z λa f=> ?_
 have⟨ak,al,hd⟩:=bind_some hd
 refine AM f Z call116 (Wk.L m aj al) λam an ao w ap m aq a f=> ?_
 obtain⟨ar,rfl,rfl,au⟩:=aq
 refine Ab f Z λa f=>l_o f (A6 (f.e Z) Z) λa f=>l_o f (A6 (f.e Z) Z) λa f=>Ac f Z λa f=>Ac f Z λa f=>Aw ?_
 refine Ab f Z λa f=>Ab f Z λa f=>Ab f Z λa f=>Ab f Z λa f=> ?_
 have⟨av,aw,hd⟩:=bind_some hd
 refine AM f Z call116 (Wk.L m au aw) λax ay az w aA m aB a f=> ?_
 obtain⟨aC,rfl,rfl,aD⟩:=aB
 refine Ab f Z λa f=>l_o f (A6 (f.e Z) Z) λa f=>l_o f (A6 (f.e Z) Z) λa f=>Ac f Z λa f=>Ac f Z λa f=>Aw ?_
 refine Ab f Z λa f=>Ac f Z λa f=>Aa ?_
 refine Ap ?_
 obtain rfl:=sj hd
 exact⟨[(iv av.2.1)],f.g Z,f.d,_,[aC,ib b4 3 [(iv av.2.2.2)]],(gt ag (gt ap aA)),m,_,Z,Z,aD⟩
theorem Wk.K {v0:Value}{it0:Itm}{b2:Nat}{x0:LI}{x1 aa:Int}(m:Mem W G w (it0::ib b2 3 [(iv aa)]::H))(o0:Ow R0 2 G it0 v0 x0){y:Int×(LI)×Int}(hd:D.K x0 x1 aa=some y):
  Calls prog 109 #[v0,(iv x1),(pb b2)] w (Res W G H (λG' Ho v=>∃i0:Itm,Ho=[i0,ib b2 3 [(iv y.2.2)]]∧v=(iv y.1)∧Ow R0 2 G' i0 v0 y.2.1)):=by
 refine As (args:=[v0,(iv x1),(pb b2)]) (N:=15) [.tmp 6] func109 Z Z (lb Z) Z λa f=> ?_
 unfold D.K at hd
 refine Af ?_
 refine Ac f Z λa f=>Aw ?_
 refine Ab f Z λa f=>Ab f Z λa f=>Ai f Z Z AC λa f=>Ab f Z λa f=>Ab f Z λa f=>Ai f Z Z Ar λa f=>Ab f Z λa f=> ?_
 have⟨ab,ac,hd⟩:=bind_some hd
 refine AM f Z call110 (Wk.Y m o0 ac) λad ae af w ag m ah a f=> ?_
 obtain⟨ai,rfl,rfl,aj⟩:=ah
 refine Ac f Z λa f=>Aa ?_
 refine Ap ?_
 obtain rfl:=sj hd
 exact⟨[(iv ab.1)],f.g Z,f.d,_,[ai,ib b2 3 [(iv ab.2.2)]],ag,m,_,Z,Z,aj⟩
theorem Wk.z0 {v0:Value}{it0:Itm}{x0:LI}{x1 x2:Int}(m:Mem W G w (it0::H))(o0:Ow R0 2 G it0 v0 x0){y:Int×Int×(LI)}(hd:D.z0 x0 x1 x2=some y):
  Calls prog 89 #[v0,(iv x1),(iv x2)] w (Res W G H (λG' Ho v=>∃i0:Itm,Ho=[i0]∧v= .tuple #[(iv y.1),(iv y.2.1)]∧Ow R0 2 G' i0 v0 y.2.2)):=by
 refine As (args:=[v0,(iv x1),(iv x2)]) (N:=57) [.tmp 6,.tmp 7] func89 Z Z (lb Z) Z λa f=> ?_
 unfold D.z0 at hd
 refine Af ?_
 refine Ac f Z λa f=>Ac f Z λa f=>Aw ?_
 refine Ab f Z λa f=>Ab f Z λa f=>Ai f Z Z AC λa f=>Ac f Z λa f=>Aw ?_
 refine B9 (cs:=[(iv 0)]) zeroValue3 m f Z Z λaa w a m f=>Aw ?_
 refine Ab f Z λa f=>Ab f Z λa f=>Ai f Z Z (Cg Z) λa f=>Ai f Z Z B6 λa f=>Ai f Z Z Ar λa f=>Ac f Z λa f=>Aw ?_
 refine Ab f Z λa f=>Ab f Z λa f=>Ai f Z Z (Cg Z) λa f=>Ai f Z Z B6 λa f=>Ai f Z Z Ar λa f=>Ac f Z λa f=>Aw ?_
 refine Ab f Z λa f=>Ab f Z λa f=>Ai f Z Z (Cg Z) λa f=>Ai f Z Z B6 λa f=>Ai f Z Z Ar λa f=>Ac f Z λa f=>Aa (Ah (Af ?_))
 refine Ab f Z λa f=>Ai f Z Z Br λa f=>Aa ?_
 rcases Ae hd with⟨ab,hd⟩|⟨ab,hd⟩
 ·refine Al f Z ab ?_
  refine Ah (Af ?_)
  refine Ab f Z λa f=>Ai f Z Z Br λa f=>Aa ?_
  have⟨ac,ad,hd⟩:=bind_some hd
  refine AD (λa w=>∃ae:LI,∃af:Int,∃ag:Int,∃ah:Int,∃ai:Int,(ae,af,ag,ah,ai)=ac∧∃(aj:GH) (ak:Itm),GLe G aj∧Fr a 57 [(0,v0),(9,(pb aa)),(10,(iv af)),(11,(iv ag)),(12,(iv ah))]∧Mem W aj w (ib aa 3 [(iv ai)]::ak::H)∧Ow R0 2 aj ak v0 ae) ?_ ?_
  ·rcases Ae ad with⟨al,ad⟩|⟨al,ad⟩
   ·refine Al f Z al ?_
    refine Af ?_
    refine Ab f Z λa f=>Ab f Z λa f=> ?_
    have m:=m.fr 1
    have⟨am,an,ad⟩:=bind_some ad
    refine AM f Z call109 (Wk.K m o0 an) λao ap aq w ar m au a f=> ?_
    obtain⟨av,rfl,rfl,aw⟩:=au
    refine Ac f Z λa f=>Aw ?_
    refine Ab f Z λa f=>Ab f Z λa f=> ?_
    have⟨ax,ay,ad⟩:=bind_some ad
    refine AM f Z call109 (Wk.K m aw ay) λaz aA aB w aC m aD a f=> ?_
    obtain⟨aE,rfl,rfl,aF⟩:=aD
    refine Ac f Z λa f=>Aa (Am ?_)
    refine Ab f Z λa f=>Ab f Z λa f=> ?_
    have⟨aG,aH,ad⟩:=bind_some ad
    refine AM f Z call109 (Wk.K m aF aH) λaI aJ aK w aL m aM a f=> ?_
    obtain⟨aN,rfl,rfl,aO⟩:=aM
    refine Ac f Z λa f=>Aa ?_
    have m:=m.fr 1
    obtain rfl:=sj ad
    exact⟨_,_,_,_,_,Z,_,aN,(gt ar (gt aC aL)),f.k Z,m,aO⟩
   ·refine Aj f Z al ?_
    refine Ao ?_
    obtain rfl:=sj ad
    exact⟨_,_,_,_,_,Z,_,it0,gr,f.k Z,m,o0⟩
  ·rintro a w ⟨ae,af,ag,ah,ai,rfl,aj,ak,aP,f,m,aQ⟩
   refine Am ?_
   refine Ab f Z λa f=>Ab f Z λa f=>Ab f Z λa f=>Ab f Z λa f=> ?_
   have m:=m.fr 1
   have⟨aR,aS,hd⟩:=bind_some hd
   refine AM f Z call110 (Wk.Y m aQ aS) λaT aU aV w aW m aX a f=> ?_
   obtain⟨aY,rfl,rfl,aZ⟩:=aX
   refine Ac f Z λa f=>Aw ?_
   refine AS 1 0 m Pl3 f Z Z Z Z λa f=>Aa (Ak (Af ?_))
   refine Ai f Z Z Bv λa f=>Ac f Z λa f=>Aa ?_
   rcases Ae hd with⟨a0,hd⟩|⟨a0,hd⟩
   ·refine Al f Z a0 ?_
    refine Af ?_
    refine Ab f Z λa f=>Ac f Z λa f=>Ac f Z λa f=>Aa ?_
    refine Ap ?_
    have m:=m.eraseAt 1
    obtain rfl:=sj hd
    exact⟨[(iv aR.1),(iv 1)],⟨f.get _ _ Z,f.get _ _ Z,trivial⟩,f.d,_,[aY],(gt aP aW),m,_,Z,Z,aZ⟩
   ·refine Aj f Z a0 ?_
    refine Af ?_
    refine Ai f Z Z Bv λa f=>Ac f Z λa f=>Aa ?_
    rcases Ae hd with⟨a1,hd⟩|⟨a1,hd⟩
    ·refine Al f Z a1 ?_
     refine Af ?_
     refine Ab f Z λa f=>Ac f Z λa f=>Ac f Z λa f=>Aa ?_
     refine Ap ?_
     have m:=m.eraseAt 1
     obtain rfl:=sj hd
     exact⟨[(iv aR.1),(iv 2)],⟨f.get _ _ Z,f.get _ _ Z,trivial⟩,f.d,_,[aY],(gt aP aW),m,_,Z,Z,aZ⟩
    ·refine Aj f Z a1 ?_
     refine Af ?_
     refine Ab f Z λa f=>Ac f Z λa f=>Ac f Z λa f=>Aa ?_
     refine Ap ?_
     have m:=m.eraseAt 1
     obtain rfl:=sj hd
     exact⟨[(iv aR.1),(iv 0)],⟨f.get _ _ Z,f.get _ _ Z,trivial⟩,f.d,_,[aY],(gt aP aW),m,_,Z,Z,aZ⟩
 ·refine Aj f Z ab ?_
  refine Ao ?_
  refine Af ?_
  refine AS 0 0 m Pl3 f Z Z Z Z λa f=>Aa (Ak (Af ?_))
  refine Ai f Z Z Bv λa f=>Ac f Z λa f=>Aa ?_
  rcases Ae hd with⟨a2,hd⟩|⟨a2,hd⟩
  ·refine Al f Z a2 ?_
   refine Af ?_
   refine Ab f Z λa f=>Ac f Z λa f=>Ac f Z λa f=>Aa ?_
   refine Ap ?_
   have m:=m.fr 1
   have m:=m.eraseAt 1
   obtain rfl:=sj hd
   exact⟨[(iv (i64.wrap (x1+(i64.wrap ((i64.wrap (Int.tdiv (i64.wrap (x2-x1)) 4))*2))))),(iv 1)],⟨f.get _ _ Z,f.get _ _ Z,trivial⟩,f.d,_,[it0],gr,m,_,Z,Z,o0⟩
  ·refine Aj f Z a2 ?_
   refine Af ?_
   refine Ai f Z Z Bv λa f=>Ac f Z λa f=>Aa ?_
   rcases Ae hd with⟨a3,hd⟩|⟨a3,hd⟩
   ·refine Al f Z a3 ?_
    refine Af ?_
    refine Ab f Z λa f=>Ac f Z λa f=>Ac f Z λa f=>Aa ?_
    refine Ap ?_
    have m:=m.fr 1
    have m:=m.eraseAt 1
    obtain rfl:=sj hd
    exact⟨[(iv (i64.wrap (x1+(i64.wrap ((i64.wrap (Int.tdiv (i64.wrap (x2-x1)) 4))*2))))),(iv 2)],⟨f.get _ _ Z,f.get _ _ Z,trivial⟩,f.d,_,[it0],gr,m,_,Z,Z,o0⟩
   ·refine Aj f Z a3 ?_
    refine Af ?_
    refine Ab f Z λa f=>Ac f Z λa f=>Ac f Z λa f=>Aa ?_
    refine Ap ?_
    have m:=m.fr 1
    have m:=m.eraseAt 1
    obtain rfl:=sj hd
    exact⟨[(iv (i64.wrap (x1+(i64.wrap ((i64.wrap (Int.tdiv (i64.wrap (x2-x1)) 4))*2))))),(iv 0)],⟨f.get _ _ Z,f.get _ _ Z,trivial⟩,f.d,_,[it0],gr,m,_,Z,Z,o0⟩
theorem Wk.w0 {v0:Value}{it0:Itm}{x0:LI}{x1 x2:Int}(m:Mem W G w (it0::H))(o0:Ow R0 2 G it0 v0 x0){y:(LI)}(hd:D.w0 x0 x1 x2=some y):
  Calls prog 90 #[v0,(iv x1),(iv x2)] w (Res W G H (λG' Ho _=>∃i0:Itm,Ho=[i0]∧Ow R0 2 G' i0 v0 y)):=by
 refine As (args:=[v0,(iv x1),(iv x2)]) (N:=32) [] func90 Z Z (lb Z) Z λa f=> ?_
 unfold D.w0 at hd
 refine Af ?_
 refine Ab f Z λa f=>Ac f Z λa f=>Aw ?_
 refine Ab f Z λa f=>Ai f Z Z AC λa f=>Ac f Z λa f=>Aa ?_
 have⟨aa,ab,hd⟩:=bind_some hd
 refine AD (λa w=>∃ac:LI,ac=aa∧∃(ad:GH) (ae:Itm),GLe G ad∧Fr a 32 []∧Mem W ad w (ae::H)∧Ow R0 2 ad ae v0 ac) ?_ ?_
 ·refine Ak ?_
  refine AB (λaf a w=>∃ag:LI,∃ah:Int,∃ai:Int,(ag,ah,ai)=af∧∃(aj:GH) (ak:Itm),GLe G aj∧Fr a 32 [(0,v0),(6,(iv ah)),(7,(iv ai))]∧Mem W aj w (ak::H)∧Ow R0 2 aj ak v0 ag) ab ⟨_,_,_,Z,_,it0,gr,f.k Z,m,o0⟩ ?_
  clear ab f m
  rintro af al am an a w ⟨ag,ah,ai,rfl,aj,ak,ao,f,m,ap⟩
  refine Ah (Af ?_)
  refine Ab f Z λa f=>Ab f Z λa f=>Ai f Z Z AT λa f=>Aa ?_
  rcases Ae am with⟨aq,am⟩|⟨aq,am⟩
  ·refine Al f Z aq ?_
   refine Ao ?_
   refine Ak (Ah ?_)
   refine Bf AA m ?_
   refine p_p 2 Z f (λ_=>AH (f.e Z)) λa f=>p_p 3 Z f (λ_=>AH (f.e Z)) λa f=>Bg 12013 11 (by kernel_rfl) Z ?_
   refine Ag 0 12013 Z f Z λa f=>Ag 1 12013 Z f Z λa f=>Ag 4 12013 Z f Z λa f=>Ag 5 12013 Z f Z λa f=> ?_
   have⟨ar,au,am⟩:=bind_some am
   refine Ax 6 12013 0 m ap T39 au Z f Z Z λav a aw f=>AF 7 12013 0 ap Pl2 aw au Z f Z λax a ay f=> ?_
   subst ay
   refine Ag 8 12013 Z f Z λa f=>Ag 9 12013 Z f Z λa f=> ?_
   have⟨az,aA,am⟩:=bind_some am
   refine Ax 10 12013 0 m ap T39 aA Z f Z Z λaB a aC f=>AF 11 12013 0 ap Pl2 aC aA Z f Z λaD a aE f=> ?_
   subst aE
   have⟨aF,aG,am⟩:=bind_some am
   refine Ax 12 12013 0 m ap T39 aG Z f Z Z λaH a aI f=>AJ λaJ w aK m=> ?_
   have ap:=od1 aK ap
   refine Au 0 m ap Z sizeOf2 f Z Z aI aG Z Z Z λaL w m aM=> ?_
   have⟨aN,aO,am⟩:=bind_some am
   refine AV 0 m aM Z T39 f Z Z Z aO λaP a aQ f=>Au 0 m aM Z sizeOf2 f Z Z aQ aO Z Z Z λaR w m aS=>Aw ?_
   refine Ab f Z λa f=>Ai f Z Z Ar λa f=>Ac f Z λa f=>Aa (Am ?_)
   refine Ab f Z λa f=>Ai f Z Z AC λa f=>Ac f Z λa f=>Aa ?_
   obtain rfl:=sj am
   exact⟨_,Z,_,_,_,Z,_,aR,(gt ao aK),f.k Z,m,aS⟩
  ·refine Aj f Z aq ?_
   refine Ay Z ?_
   obtain rfl:=sj am
   obtain rfl:=an _ rfl
   exact⟨_,Z,_,ak,ao,f.weak trivial,m,ap⟩
 ·rintro a w ⟨ac,rfl,ad,ae,aT,f,m,aU⟩
  obtain rfl:=sj hd
  exact⟨[],trivial,f.d,_,[ae],aT,m,_,Z,aU⟩
theorem Wk.E0 {v0:Value}{it0:Itm}{x0:LI}{x1 x2:Int}(m:Mem W G w (it0::H))(o0:Ow R0 2 G it0 v0 x0){y:Bool×(LI)}(hd:D.E0 x0 x1 x2=some y):
  Calls prog 91 #[v0,(iv x1),(iv x2)] w (Res W G H (λG' Ho v=>∃i0:Itm,Ho=[i0]∧v=(.bool y.1)∧Ow R0 2 G' i0 v0 y.2)):=by
 refine As (args:=[v0,(iv x1),(iv x2)]) (N:=133) [.tmp 6] func91 Z Z (lb Z) Z λa f=> ?_
 unfold D.E0 at hd
 refine Af ?_
 refine Ac f Z λa f=>Aw ?_
 refine Ab f Z λa f=>Ai f Z Z Ar λa f=>Ac f Z λa f=>Aa (Ah (Af ?_))
 refine Ac f Z λa f=>Aa ?_
 have⟨aa,ab,hd⟩:=bind_some hd
 refine AD (λa w=>∃q_1621':LI,aa= .inl q_1621'∧∃ac:LI,ac=q_1621'∧∃(ad:GH) (ae:Itm),GLe G ad∧Fr a 133 []∧Mem W ad w (ae::H)∧Ow R0 2 ad ae v0 ac) ?_ ?_
 ·refine Ak ?_
  refine AB (λaf a w=>∃ag:LI,∃ah:Int,∃ai:Int,(ag,ah,ai)=af∧∃(aj:GH) (ak:Itm),GLe G aj∧Fr a 133 [(0,v0),(1,(iv x1)),(2,(iv x2)),(7,(iv ah)),(8,(iv ai))]∧Mem W aj w (ak::H)∧Ow R0 2 aj ak v0 ag) ab ⟨_,_,_,Z,_,it0,gr,f.k Z,m,o0⟩ ?_
  clear ab f m
  rintro af al am an a w ⟨ag,ah,ai,rfl,aj,ak,ao,f,m,ap⟩
  refine Ah (Af ?_)
  refine Ab f Z λa f=>Ai f Z Z AT λa f=>Aa ?_
  rcases Ae am with⟨aq,am⟩|⟨aq,am⟩
  ·refine Al f Z aq ?_
   refine Ao ?_
   refine Ah (Ak (Ah ?_))
   have⟨ar,au,am⟩:=bind_some am
   refine AD (λa w=>∃av:Int,av=ar∧∃(aw:GH),GLe aj aw∧Fr a 133 [(0,v0),(1,(iv x1)),(2,(iv x2)),(7,(iv av)),(8,(iv ai))]∧Mem W aw w (ak::H)) ?_ ?_
   ·refine Ak ?_
    refine AB (λax a w=>∃ay:Int,ay=ax∧∃(az:GH),GLe aj az∧Fr a 133 [(0,v0),(1,(iv x1)),(2,(iv x2)),(7,(iv ay)),(8,(iv ai))]∧Mem W az w (ak::H)) au ⟨_,Z,_,gr,f.k Z,m⟩ ?_
    clear au f m
    rintro ax aA aB aC a w ⟨ay,rfl,az,aD,f,m⟩
    have ap:=od1 aD ap
    refine Ah (Ah ?_)
    refine A1 16 AA (by kernel_rfl) m ?_
    refine Ag 0 16 Z f Z λa f=>Ag 1 16 Z f Z λa f=>q_p 2 16 Z f (λ_=>AE (f.e Z) (f.e Z) AT) λa f=>Ag 3 16 Z f Z λa f=> ?_
    have⟨aE,aF,aB⟩:=bind_some aB
    refine Bx (fuel':=0) (listed':= #[true,true,true,true,true,true,true,true,true,true,true,true,true,true,true,true]) (λa=>Fr a 133 [(0,v0),(1,(iv x1)),(2,(iv x2)),(7,(iv ay)),(8,(iv ai)),(17,(iv ay)),(18,(iv x2)),(19,(.bool (decide (ay<x2)))),(20,(.bool (decide (ay<x2)))),(32,(.bool aE))]) ?_ ?_
    ·intro a f
     refine AJ λaG w aH m=>Aa ?_
     rcases Ae aB with⟨aI,aB⟩|⟨aI,aB⟩
     ·refine Al f Z aI ?_
      refine Ao ?_
      refine Ak (Am ?_)
      refine Ab f Z λa f=>Ai f Z Z Ar λa f=>Ac f Z λa f=>Aa ?_
      obtain rfl:=sj aB
      exact⟨_,Z,_,Z,_,(gt aD aH),f.k Z,m⟩
     ·refine Aj f Z aI ?_
      refine Ay Z ?_
      obtain rfl:=sj aB
      obtain rfl:=aC _ rfl
      exact⟨_,Z,_,(gt aD aH),f.k Z,m⟩
    ·intro aJ
     rcases Ae aF with⟨aK,aF⟩|⟨aK,aF⟩
     ·refine Ag (hw:=wo f aK) 4 16 Z f Z λa f=> ?_
      refine Ag (hw:=wo f aK) 5 16 Z f Z λa f=> ?_
      have⟨aL,aM,aF⟩:=bind_some aF
      refine Ax (hw:=wo f aK) 6 16 0 m ap T39 aM Z f Z Z λaN a aO f=>AF (hw:=wo f aK) 7 16 0 ap Pl2 aO aM Z f Z λaP a aQ f=> ?_
      subst aQ
      refine Ag (hw:=wo f aK) 8 16 Z f Z λa f=>Ag (hw:=wo f aK) 9 16 Z f Z λa f=>q_p (hw:=wo f aK) 10 16 Z f (λ_=>AE (f.e Z) (f.e Z) AC) λa f=> ?_
      have⟨aR,aS,aF⟩:=bind_some aF
      refine Ax (hw:=wo f aK) 11 16 0 m ap T39 aS Z f Z Z λaT a aU f=>AF (hw:=wo f aK) 12 16 0 ap Pl2 aU aS Z f Z λaV a aW f=> ?_
      subst aW
      have⟨aX,aY,aF⟩:=bind_some aF
      refine Bb (i:=13) 16 Z (by kernel_rfl) Z f (AZ f Z Z Z aK) Z Z call92 (λ_ _ w aZ m=>Wk.c m aY) λa f=>q_p (hw:=wo f aK) 14 16 Z f (λ_=>Be (f.e Z)) λa f=>q_p 15 16 Z f (λ_=>AO (f.e Z) aK (f.e Z)) λa f=> ?_
      obtain rfl:=sj aF
      exact aJ _ (f.k Z)
     ·refine An 4 16 Z f aK λa f=> ?_
      refine An 5 16 Z f aK λa f=>An 6 16 Z f aK λa f=>An 7 16 Z f aK λa f=>An 8 16 Z f aK λa f=>An 9 16 Z f aK λa f=>An 10 16 Z f aK λa f=>An 11 16 Z f aK λa f=>An 12 16 Z f aK λa f=>An 13 16 Z f aK λa f=>An 14 16 Z f aK λa f=>q_p 15 16 Z f (λ_=>AP (f.e Z) aK (f.e Z)) λa f=> ?_
      obtain rfl:=sj aF
      exact aJ _ (f.k Z)
   ·rintro a w ⟨av,rfl,aw,a0,f,m⟩
    have ap:=od1 a0 ap
    refine Ah (Af ?_)
    refine Ab f Z λa f=>Ab f Z λa f=>Ai f Z Z Bv λa f=>Aa ?_
    rcases Ae am with⟨a1,am⟩|⟨a1,am⟩
    ·refine Al f Z a1 ?_
     refine Af ?_
     refine Ac f Z λa f=>Aa ?_
     refine Ap ?_
     obtain rfl:=sj am
     obtain rfl:=an _ rfl
     obtain rfl:=sj hd
     exact⟨[(.bool true)],f.g Z,f.d,_,[ak],(gt ao a0),m,_,Z,Z,ap⟩
    ·refine Aj f Z a1 ?_
     refine Ao ?_
     refine Ah (Af ?_)
     refine Ab f Z λa f=>Ab f Z λa f=>Ai f Z Z AC λa f=>Ai f Z Z AT λa f=>Aa ?_
     rcases Ae am with⟨a2,am⟩|⟨a2,am⟩
     ·refine Al f Z a2 ?_
      refine Af ?_
      refine Ac f Z λa f=>Aa ?_
      refine Ap ?_
      obtain rfl:=sj am
      obtain rfl:=an _ rfl
      obtain rfl:=sj hd
      exact⟨[(.bool false)],f.g Z,f.d,_,[ak],(gt ao a0),m,_,Z,Z,ap⟩
     ·refine Aj f Z a2 ?_
      refine Ao ?_
      refine Ah ?_
      refine Bf AA m ?_
      refine p_p 2 Z f (λ_=>AH (f.e Z)) λa f=>p_p 3 Z f (λ_=>AH (f.e Z)) λa f=>p_p 4 Z f (λ_=>AE (f.e Z) (f.e Z) AC) λa f=>Bg 28015 12 (by kernel_rfl) Z ?_
      refine Ag 0 28015 Z f Z λa f=>Ag 1 28015 Z f Z λa f=>Ag 5 28015 Z f Z λa f=>Ag 6 28015 Z f Z λa f=>q_p 7 28015 Z f (λ_=>AE (f.e Z) (f.e Z) AC) λa f=> ?_
      have⟨a3,a4,am⟩:=bind_some am
      refine Ax 8 28015 0 m ap T39 a4 Z f Z Z λa5 a a6 f=>AF 9 28015 0 ap Pl2 a6 a4 Z f Z λa7 a a8 f=> ?_
      subst a8
      refine Ag 10 28015 Z f Z λa f=>Ag 11 28015 Z f Z λa f=> ?_
      have⟨a9,ba,am⟩:=bind_some am
      refine Ax 12 28015 0 m ap T39 ba Z f Z Z λbb a bc f=>AF 13 28015 0 ap Pl2 bc ba Z f Z λbd a be f=> ?_
      subst be
      have⟨bf,bg,am⟩:=bind_some am
      refine Ax 14 28015 0 m ap T39 bg Z f Z Z λbh a bi f=>AJ λbj w bk m=> ?_
      have ap:=od1 bk ap
      refine Au 0 m ap Z sizeOf2 f Z Z bi bg Z Z Z λbl w m bm=> ?_
      have⟨bn,bo,am⟩:=bind_some am
      refine AV 0 m bm Z T39 f Z Z Z bo λbp a bq f=>Au 0 m bm Z sizeOf2 f Z Z bq bo Z Z Z λbr w m bs=>Aa (Ah (Af ?_))
      refine Ab f Z λa f=>Ab f Z λa f=>Ai f Z Z AC λa f=>Ai f Z Z Br λa f=>Aa ?_
      have⟨bt,bu,am⟩:=bind_some am
      refine AD (λa w=>∃bv:LI,bv=bt∧∃(bw:GH) (bx:Itm),GLe bj bw∧Fr a 133 [(0,v0),(1,(iv x1)),(2,(iv x2)),(7,(iv av)),(8,(iv ai))]∧Mem W bw w (bx::H)∧Ow R0 2 bw bx v0 bv) ?_ ?_
      ·rcases Ae bu with⟨bz,bu⟩|⟨bz,bu⟩
       ·refine Al f Z bz ?_
        refine Af ?_
        refine Ab f Z λa f=>Ai f Z Z AC λa f=>Ac f Z λa f=>Aa ?_
        have⟨bA,bB,bu⟩:=bind_some bu
        refine AD (λa w=>∃bC:LI,bC=bA∧∃(bD:GH) (bE:Itm),GLe bj bD∧Fr a 133 [(0,v0),(1,(iv x1)),(2,(iv x2)),(7,(iv av)),(8,(iv ai))]∧Mem W bD w (bE::H)∧Ow R0 2 bD bE v0 bC) ?_ ?_
        ·refine Ak ?_
         refine AB (λbF a w=>∃bG:LI,∃bH:Int,(bG,bH)=bF∧∃(bI:GH) (bJ:Itm),GLe bj bI∧Fr a 133 [(0,v0),(1,(iv x1)),(2,(iv x2)),(7,(iv av)),(8,(iv ai)),(9,(iv bH))]∧Mem W bI w (bJ::H)∧Ow R0 2 bI bJ v0 bG) bB ⟨_,_,Z,_,br,gr,f.k Z,m,bs⟩ ?_
         clear bB f m
         rintro bF bK bL bM a w ⟨bG,bH,rfl,bI,bJ,bN,f,m,bO⟩
         refine Ah (Af ?_)
         refine Ab f Z λa f=>Ai f Z Z Br λa f=>Aa ?_
         rcases Ae bL with⟨bP,bL⟩|⟨bP,bL⟩
         ·refine Al f Z bP ?_
          refine Ao ?_
          refine Ah (Ak (Ah (Ah ?_)))
          refine A1 11 AA (by kernel_rfl) m ?_
          refine Ag 0 11 Z f Z λa f=>Ag 1 11 Z f Z λa f=> ?_
          have⟨bQ,bR,bL⟩:=bind_some bL
          refine Ax 2 11 0 m bO T39 bR Z f Z Z λbS a bT f=>AF 3 11 0 bO Pl2 bT bR Z f Z λbU a bV f=> ?_
          subst bV
          refine Ag 4 11 Z f Z λa f=>Ag 5 11 Z f Z λa f=>q_p 6 11 Z f (λ_=>AE (f.e Z) (f.e Z) AC) λa f=> ?_
          have⟨bW,bX,bL⟩:=bind_some bL
          refine Ax 7 11 0 m bO T39 bX Z f Z Z λbY a bZ f=>AF 8 11 0 bO Pl2 bZ bX Z f Z λb0 a b1 f=> ?_
          subst b1
          have⟨b2,b3,bL⟩:=bind_some bL
          refine Bb (i:=9) 11 Z (by kernel_rfl) Z f Z Z Z call92 (λ_ _ w b4 m=>Wk.c m b3) λa f=>q_p 10 11 Z f (λ_=>Be (f.e Z)) λa f=>AJ λb5 w b6 m=> ?_
          have bO:=od1 b6 bO
          refine Aa ?_
          rcases Ae bL with⟨b7,bL⟩|⟨b7,bL⟩
          ·refine Al f Z b7 ?_
           refine Ay Z ?_
           obtain rfl:=sj bL
           obtain rfl:=bM _ rfl
           exact⟨_,Z,_,bJ,(gt bN b6),f.k Z,m,bO⟩
          ·refine Aj f Z b7 ?_
           refine Ao ?_
           refine Bf AA m ?_
           refine p_p 2 Z f (λ_=>AH (f.e Z)) λa f=>p_p 3 Z f (λ_=>AH (f.e Z)) λa f=>p_p 4 Z f (λ_=>AE (f.e Z) (f.e Z) AC) λa f=>Bg 28015 12 (by kernel_rfl) Z ?_
           refine Ag 0 28015 Z f Z λa f=>Ag 1 28015 Z f Z λa f=>Ag 5 28015 Z f Z λa f=>Ag 6 28015 Z f Z λa f=>q_p 7 28015 Z f (λ_=>AE (f.e Z) (f.e Z) AC) λa f=> ?_
           have⟨b8,b9,bL⟩:=bind_some bL
           refine Ax 8 28015 0 m bO T39 b9 Z f Z Z λca a cb f=>AF 9 28015 0 bO Pl2 cb b9 Z f Z λcc a cd f=> ?_
           subst cd
           refine Ag 10 28015 Z f Z λa f=>Ag 11 28015 Z f Z λa f=> ?_
           have⟨ce,cf,bL⟩:=bind_some bL
           refine Ax 12 28015 0 m bO T39 cf Z f Z Z λcg a ch f=>AF 13 28015 0 bO Pl2 ch cf Z f Z λci a cj f=> ?_
           subst cj
           have⟨ck,cl,bL⟩:=bind_some bL
           refine Ax 14 28015 0 m bO T39 cl Z f Z Z λcm a cn f=>AJ λco w cp m=> ?_
           have bO:=od1 cp bO
           refine Au 0 m bO Z sizeOf2 f Z Z cn cl Z Z Z λcq w m cr=> ?_
           have⟨cs,ct,bL⟩:=bind_some bL
           refine AV 0 m cr Z T39 f Z Z Z ct λcu a cv f=>Au 0 m cr Z sizeOf2 f Z Z cv ct Z Z Z λcw w m cx=>Aa (Am ?_)
           refine Ab f Z λa f=>Ai f Z Z AC λa f=>Ac f Z λa f=>Aa ?_
           obtain rfl:=sj bL
           exact⟨_,Z,_,_,Z,_,cw,(gt bN (gt b6 cp)),f.k Z,m,cx⟩
         ·refine Aj f Z bP ?_
          refine Ay Z ?_
          obtain rfl:=sj bL
          obtain rfl:=bM _ rfl
          exact⟨_,Z,_,bJ,bN,f.k Z,m,bO⟩
        ·rintro a w ⟨bC,rfl,bD,bE,cy,f,m,cz⟩
         obtain rfl:=sj bu
         exact⟨_,Z,_,bE,cy,f.k Z,m,cz⟩
       ·refine Aj f Z bz ?_
        refine Ao ?_
        obtain rfl:=sj bu
        exact⟨_,Z,_,br,gr,f.k Z,m,bs⟩
      ·rintro a w ⟨bv,rfl,bw,bx,cA,f,m,cB⟩
       refine Af ?_
       refine Ab f Z λa f=>Ab f Z λa f=>Ai f Z Z AC λa f=>Ai f Z Z Br λa f=>Aa ?_
       rcases Ae am with⟨cC,am⟩|⟨cC,am⟩
       ·refine Al f Z cC ?_
        refine Af ?_
        refine Ab f Z λa f=>Ai f Z Z Ar λa f=>Ac f Z λa f=>Aa ?_
        have⟨cD,cE,am⟩:=bind_some am
        refine AD (λa w=>∃cF:LI,cF=cD∧∃(cG:GH) (cH:Itm),GLe bw cG∧Fr a 133 [(0,v0),(1,(iv x1)),(2,(iv x2)),(7,(iv av)),(8,(iv ai))]∧Mem W cG w (cH::H)∧Ow R0 2 cG cH v0 cF) ?_ ?_
        ·refine Ak ?_
         refine AB (λcI a w=>∃cJ:LI,∃cK:Int,(cJ,cK)=cI∧∃(cL:GH) (cM:Itm),GLe bw cL∧Fr a 133 [(0,v0),(1,(iv x1)),(2,(iv x2)),(7,(iv av)),(8,(iv ai)),(10,(iv cK))]∧Mem W cL w (cM::H)∧Ow R0 2 cL cM v0 cJ) cE ⟨_,_,Z,_,bx,gr,f.k Z,m,cB⟩ ?_
         clear cE f m
         rintro cI cN cO cP a w ⟨cJ,cK,rfl,cL,cM,cQ,f,m,cR⟩
         refine Ah (Af ?_)
         refine Ab f Z λa f=>Ab f Z λa f=>Ai f Z Z AT λa f=>Aa ?_
         rcases Ae cO with⟨cS,cO⟩|⟨cS,cO⟩
         ·refine Al f Z cS ?_
          refine Ao ?_
          refine Ah (Ak (Ah (Ah ?_)))
          refine A1 11 AA (by kernel_rfl) m ?_
          refine Ag 0 11 Z f Z λa f=>Ag 1 11 Z f Z λa f=> ?_
          have⟨cT,cU,cO⟩:=bind_some cO
          refine Ax 2 11 0 m cR T39 cU Z f Z Z λcV a cW f=>AF 3 11 0 cR Pl2 cW cU Z f Z λcX a cY f=> ?_
          subst cY
          refine Ag 4 11 Z f Z λa f=>Ag 5 11 Z f Z λa f=>q_p 6 11 Z f (λ_=>AE (f.e Z) (f.e Z) AC) λa f=> ?_
          have⟨cZ,c0,cO⟩:=bind_some cO
          refine Ax 7 11 0 m cR T39 c0 Z f Z Z λc1 a c2 f=>AF 8 11 0 cR Pl2 c2 c0 Z f Z λc3 a c4 f=> ?_
          subst c4
          have⟨c5,c6,cO⟩:=bind_some cO
          refine Bb (i:=9) 11 Z (by kernel_rfl) Z f Z Z Z call92 (λ_ _ w c7 m=>Wk.c m c6) λa f=>q_p 10 11 Z f (λ_=>Be (f.e Z)) λa f=>AJ λc8 w c9 m=> ?_
          have cR:=od1 c9 cR
          refine Aa ?_
          rcases Ae cO with⟨da,cO⟩|⟨da,cO⟩
          ·refine Al f Z da ?_
           refine Ay Z ?_
           obtain rfl:=sj cO
           obtain rfl:=cP _ rfl
           exact⟨_,Z,_,cM,(gt cQ c9),f.k Z,m,cR⟩
          ·refine Aj f Z da ?_
           refine Ao ?_
           refine Bf AA m ?_
           refine p_p 2 Z f (λ_=>AH (f.e Z)) λa f=>p_p 3 Z f (λ_=>AH (f.e Z)) λa f=>p_p 4 Z f (λ_=>AE (f.e Z) (f.e Z) AC) λa f=>Bg 28015 12 (by kernel_rfl) Z ?_
           refine Ag 0 28015 Z f Z λa f=>Ag 1 28015 Z f Z λa f=>Ag 5 28015 Z f Z λa f=>Ag 6 28015 Z f Z λa f=>q_p 7 28015 Z f (λ_=>AE (f.e Z) (f.e Z) AC) λa f=> ?_
           have⟨db,dc,cO⟩:=bind_some cO
           refine Ax 8 28015 0 m cR T39 dc Z f Z Z λdd a de f=>AF 9 28015 0 cR Pl2 de dc Z f Z λdf a dg f=> ?_
           subst dg
           refine Ag 10 28015 Z f Z λa f=>Ag 11 28015 Z f Z λa f=> ?_
           have⟨dh,di,cO⟩:=bind_some cO
           refine Ax 12 28015 0 m cR T39 di Z f Z Z λdj a dk f=>AF 13 28015 0 cR Pl2 dk di Z f Z λdl a dm f=> ?_
           subst dm
           have⟨dn,dp,cO⟩:=bind_some cO
           refine Ax 14 28015 0 m cR T39 dp Z f Z Z λdq a dr f=>AJ λds w dt m=> ?_
           have cR:=od1 dt cR
           refine Au 0 m cR Z sizeOf2 f Z Z dr dp Z Z Z λdu w m dv=> ?_
           have⟨dw,dx,cO⟩:=bind_some cO
           refine AV 0 m dv Z T39 f Z Z Z dx λdy a dz f=>Au 0 m dv Z sizeOf2 f Z Z dz dx Z Z Z λdA w m dB=>Aa (Am ?_)
           refine Ab f Z λa f=>Ai f Z Z Ar λa f=>Ac f Z λa f=>Aa ?_
           obtain rfl:=sj cO
           exact⟨_,Z,_,_,Z,_,dA,(gt cQ (gt c9 dt)),f.k Z,m,dB⟩
         ·refine Aj f Z cS ?_
          refine Ay Z ?_
          obtain rfl:=sj cO
          obtain rfl:=cP _ rfl
          exact⟨_,Z,_,cM,cQ,f.k Z,m,cR⟩
        ·rintro a w ⟨cF,rfl,cG,cH,dC,f,m,dD⟩
         refine Am ?_
         refine Ab f Z λa f=>Ai f Z Z Ar λa f=>Ac f Z λa f=>Aa ?_
         obtain rfl:=sj am
         exact⟨_,Z,_,_,_,Z,_,cH,(gt ao (gt a0 (gt bk (gt cA dC)))),f.k Z,m,dD⟩
       ·refine Aj f Z cC ?_
        refine Ao ?_
        refine Am ?_
        refine Ab f Z λa f=>Ai f Z Z Ar λa f=>Ac f Z λa f=>Aa ?_
        obtain rfl:=sj am
        exact⟨_,Z,_,_,_,Z,_,bx,(gt ao (gt a0 (gt bk cA))),f.k Z,m,cB⟩
  ·refine Aj f Z aq ?_
   refine Ay Z ?_
   obtain rfl:=sj am
   obtain rfl:=an _ rfl
   exact⟨_,Z,_,Z,_,ak,ao,f.weak trivial,m,ap⟩
 ·rintro a w ⟨_,rfl,ac,rfl,ad,ae,dE,f,m,dF⟩
  refine Af ?_
  refine Ac f Z λa f=>Aa ?_
  refine Ap ?_
  obtain rfl:=sj hd
  exact⟨[(.bool false)],f.g Z,f.d,_,[ae],dE,m,_,Z,Z,dF⟩
theorem Wk.y0 {v0:Value}{it0:Itm}{x0:LI}{x1 x2 x3:Int}(m:Mem W G w (it0::H))(o0:Ow R0 2 G it0 v0 x0){y:Int×(LI)}(hd:D.y0 x0 x1 x2 x3=some y):
  Calls prog 93 #[v0,(iv x1),(iv x2),(iv x3)] w (Res W G H (λG' Ho v=>∃i0:Itm,Ho=[i0]∧v=(iv y.1)∧Ow R0 2 G' i0 v0 y.2)):=by
 refine As (args:=[v0,(iv x1),(iv x2),(iv x3)]) (N:=84) [.tmp 8] func93 Z Z (lb Z) Z λa f=> ?_
 unfold D.y0 at hd
 refine Af ?_
 refine Ac f Z λa f=>Aa (Ah ?_)
 refine Bf AA m ?_
 refine p_p 2 Z f (λ_=>AH (f.e Z)) λa f=>p_p 3 Z f (λ_=>AH (f.e Z)) λa f=>Bg 12013 11 (by kernel_rfl) Z ?_
 refine Ag 0 12013 Z f Z λa f=>Ag 1 12013 Z f Z λa f=>Ag 4 12013 Z f Z λa f=>Ag 5 12013 Z f Z λa f=> ?_
 have⟨aa,ab,hd⟩:=bind_some hd
 refine Ax 6 12013 0 m o0 T39 ab Z f Z Z λac a ad f=>AF 7 12013 0 o0 Pl2 ad ab Z f Z λae a af f=> ?_
 subst af
 refine Ag 8 12013 Z f Z λa f=>Ag 9 12013 Z f Z λa f=> ?_
 have⟨ag,ah,hd⟩:=bind_some hd
 refine Ax 10 12013 0 m o0 T39 ah Z f Z Z λai a aj f=>AF 11 12013 0 o0 Pl2 aj ah Z f Z λak a al f=> ?_
 subst al
 have⟨am,an,hd⟩:=bind_some hd
 refine Ax 12 12013 0 m o0 T39 an Z f Z Z λao a ap f=>AJ λaq w ar m=> ?_
 have o0:=od1 ar o0
 refine Au 0 m o0 Z sizeOf2 f Z Z ap an Z Z Z λau w m av=> ?_
 have⟨aw,ax,hd⟩:=bind_some hd
 refine AV 0 m av Z T39 f Z Z Z ax λay a az f=>Au 0 m av Z sizeOf2 f Z Z az ax Z Z Z λaA w m aB=>Aw ?_
 refine Ab f Z λa f=>Ai f Z Z Ar λa f=>Ab f Z λa f=>Ai f Z Z AC λa f=>Ac f Z λa f=>Ac f Z λa f=>Aa (Ah ?_)
 have⟨aC,aD,hd⟩:=bind_some hd
 refine AD (λa w=>∃aE:LI,∃aF:Int,(aE,aF)=aC∧∃(aG:GH) (aH:Itm),GLe aq aG∧Fr a 84 [(9,(iv aF))]∧Mem W aG w (aH::H)∧Ow R0 2 aG aH v0 aE) ?_ ?_
 ·refine Ak ?_
  refine AB (λaI a w=>∃aJ:LI,∃aK:Int,∃aL:Int,(aJ,aK,aL)=aI∧∃(aM:GH) (aN:Itm),GLe aq aM∧Fr a 84 [(0,v0),(1,(iv x1)),(9,(iv aK)),(10,(iv aL))]∧Mem W aM w (aN::H)∧Ow R0 2 aM aN v0 aJ) aD ⟨_,_,_,Z,_,aA,gr,f.k Z,m,aB⟩ ?_
  clear aD f m
  rintro aI aO aP aQ a w ⟨aJ,aK,aL,rfl,aM,aN,aR,f,m,aS⟩
  refine Ak (Ah ?_)
  have⟨aT,aU,aP⟩:=bind_some aP
  refine AD (λa w=>∃aV:Int,aV=aT∧∃(aW:GH),GLe aM aW∧Fr a 84 [(0,v0),(1,(iv x1)),(9,(iv aV)),(10,(iv aL))]∧Mem W aW w (aN::H)) ?_ ?_
  ·refine Ak ?_
   refine AB (λaX a w=>∃aY:Int,aY=aX∧∃(aZ:GH),GLe aM aZ∧Fr a 84 [(0,v0),(1,(iv x1)),(9,(iv aY)),(10,(iv aL))]∧Mem W aZ w (aN::H)) aU ⟨_,Z,_,gr,f.k Z,m⟩ ?_
   clear aU f m
   rintro aX a0 a1 a2 a w ⟨aY,rfl,aZ,a3,f,m⟩
   have aS:=od1 a3 aS
   refine Ah (Ah ?_)
   refine A1 15 AA (by kernel_rfl) m ?_
   refine Ag 0 15 Z f Z λa f=>Ag 1 15 Z f Z λa f=>q_p 2 15 Z f (λ_=>AE (f.e Z) (f.e Z) BW) λa f=>Ag 3 15 Z f Z λa f=> ?_
   have⟨a4,a5,a1⟩:=bind_some a1
   refine Bx (fuel':=0) (listed':= #[true,true,true,true,true,true,true,true,true,true,true,true,true,true,true]) (λa=>Fr a 84 [(0,v0),(1,(iv x1)),(9,(iv aY)),(10,(iv aL)),(29,(iv aY)),(30,(iv aL)),(31,(.bool (decide (aY≤aL)))),(32,(.bool (decide (aY≤aL)))),(43,(.bool a4))]) ?_ ?_
   ·intro a f
    refine AJ λa6 w a7 m=>Aa ?_
    rcases Ae a1 with⟨a8,a1⟩|⟨a8,a1⟩
    ·refine Al f Z a8 ?_
     refine Ao ?_
     refine Ak (Am ?_)
     refine Ab f Z λa f=>Ai f Z Z Ar λa f=>Ac f Z λa f=>Aa ?_
     obtain rfl:=sj a1
     exact⟨_,Z,_,Z,_,(gt a3 a7),f.k Z,m⟩
    ·refine Aj f Z a8 ?_
     refine Ay Z ?_
     obtain rfl:=sj a1
     obtain rfl:=a2 _ rfl
     exact⟨_,Z,_,(gt a3 a7),f.k Z,m⟩
   ·intro a9
    rcases Ae a5 with⟨ba,a5⟩|⟨ba,a5⟩
    ·refine Ag (hw:=wo f ba) 4 15 Z f Z λa f=> ?_
     refine Ag (hw:=wo f ba) 5 15 Z f Z λa f=> ?_
     have⟨bb,bc,a5⟩:=bind_some a5
     refine Ax (hw:=wo f ba) 6 15 0 m aS T39 bc Z f Z Z λbd a be f=>AF (hw:=wo f ba) 7 15 0 aS Pl2 be bc Z f Z λbf a bg f=> ?_
     subst bg
     refine Ag (hw:=wo f ba) 8 15 Z f Z λa f=>Ag (hw:=wo f ba) 9 15 Z f Z λa f=> ?_
     have⟨bh,bi,a5⟩:=bind_some a5
     refine Ax (hw:=wo f ba) 10 15 0 m aS T39 bi Z f Z Z λbj a bk f=>AF (hw:=wo f ba) 11 15 0 aS Pl2 bk bi Z f Z λbl a bm f=> ?_
     subst bm
     have⟨bn,bo,a5⟩:=bind_some a5
     refine Bb (i:=12) 15 Z (by kernel_rfl) Z f (AZ f Z Z Z ba) Z Z call92 (λ_ _ w bp m=>Wk.c m bo) λa f=>q_p (hw:=wo f ba) 13 15 Z f (λ_=>Be (f.e Z)) λa f=>q_p 14 15 Z f (λ_=>AO (f.e Z) ba (f.e Z)) λa f=> ?_
     obtain rfl:=sj a5
     exact a9 _ (f.k Z)
    ·refine An 4 15 Z f ba λa f=> ?_
     refine An 5 15 Z f ba λa f=>An 6 15 Z f ba λa f=>An 7 15 Z f ba λa f=>An 8 15 Z f ba λa f=>An 9 15 Z f ba λa f=>An 10 15 Z f ba λa f=>An 11 15 Z f ba λa f=>An 12 15 Z f ba λa f=>An 13 15 Z f ba λa f=>q_p 14 15 Z f (λ_=>AP (f.e Z) ba (f.e Z)) λa f=> ?_
     obtain rfl:=sj a5
     exact a9 _ (f.k Z)
  ·rintro a w ⟨aV,rfl,aW,bq,f,m⟩
   have aS:=od1 bq aS
   refine Ah ?_
   have⟨br,bs,aP⟩:=bind_some aP
   refine AD (λa w=>∃bt:Int,bt=br∧∃(bu:GH),GLe aW bu∧Fr a 84 [(0,v0),(1,(iv x1)),(9,(iv aV)),(10,(iv bt))]∧Mem W bu w (aN::H)) ?_ ?_
   ·refine Ak ?_
    refine AB (λbv a w=>∃bw:Int,bw=bv∧∃(bx:GH),GLe aW bx∧Fr a 84 [(0,v0),(1,(iv x1)),(9,(iv aV)),(10,(iv bw))]∧Mem W bx w (aN::H)) bs ⟨_,Z,_,gr,f.k Z,m⟩ ?_
    clear bs f m
    rintro bv bz bA bB a w ⟨bw,rfl,bx,bC,f,m⟩
    have aS:=od1 bC aS
    refine Ah (Ah ?_)
    refine A1 14 AA (by kernel_rfl) m ?_
    refine Ag 0 14 Z f Z λa f=>Ag 1 14 Z f Z λa f=>q_p 2 14 Z f (λ_=>AE (f.e Z) (f.e Z) BW) λa f=>Ag 3 14 Z f Z λa f=> ?_
    have⟨bD,bE,bA⟩:=bind_some bA
    refine Bx (fuel':=0) (listed':= #[true,true,true,true,true,true,true,true,true,true,true,true,true,true]) (λa=>Fr a 84 [(0,v0),(1,(iv x1)),(9,(iv aV)),(10,(iv bw)),(46,(iv aV)),(47,(iv bw)),(48,(.bool (decide (aV≤bw)))),(49,(.bool (decide (aV≤bw)))),(59,(.bool bD))]) ?_ ?_
    ·intro a f
     refine AJ λbF w bG m=>Aa ?_
     rcases Ae bA with⟨bH,bA⟩|⟨bH,bA⟩
     ·refine Al f Z bH ?_
      refine Ao ?_
      refine Ak (Am ?_)
      refine Ab f Z λa f=>Ai f Z Z AC λa f=>Ac f Z λa f=>Aa ?_
      obtain rfl:=sj bA
      exact⟨_,Z,_,Z,_,(gt bC bG),f.k Z,m⟩
     ·refine Aj f Z bH ?_
      refine Ay Z ?_
      obtain rfl:=sj bA
      obtain rfl:=bB _ rfl
      exact⟨_,Z,_,(gt bC bG),f.k Z,m⟩
    ·intro bI
     rcases Ae bE with⟨bJ,bE⟩|⟨bJ,bE⟩
     ·refine Ag (hw:=wo f bJ) 4 14 Z f Z λa f=> ?_
      refine Ag (hw:=wo f bJ) 5 14 Z f Z λa f=> ?_
      have⟨bK,bL,bE⟩:=bind_some bE
      refine Ax (hw:=wo f bJ) 6 14 0 m aS T39 bL Z f Z Z λbM a bN f=>AF (hw:=wo f bJ) 7 14 0 aS Pl2 bN bL Z f Z λbO a bP f=> ?_
      subst bP
      refine Ag (hw:=wo f bJ) 8 14 Z f Z λa f=>Ag (hw:=wo f bJ) 9 14 Z f Z λa f=> ?_
      have⟨bQ,bR,bE⟩:=bind_some bE
      refine Ax (hw:=wo f bJ) 10 14 0 m aS T39 bR Z f Z Z λbS a bT f=>AF (hw:=wo f bJ) 11 14 0 aS Pl2 bT bR Z f Z λbU a bV f=> ?_
      subst bV
      have⟨bW,bX,bE⟩:=bind_some bE
      refine Bb (i:=12) 14 Z (by kernel_rfl) Z f (AZ f Z Z Z bJ) Z Z call92 (λ_ _ w bY m=>Wk.c m bX) λa f=>q_p 13 14 Z f (λ_=>AO (f.e Z) bJ (f.e Z)) λa f=> ?_
      obtain rfl:=sj bE
      exact bI _ (f.k Z)
     ·refine An 4 14 Z f bJ λa f=> ?_
      refine An 5 14 Z f bJ λa f=>An 6 14 Z f bJ λa f=>An 7 14 Z f bJ λa f=>An 8 14 Z f bJ λa f=>An 9 14 Z f bJ λa f=>An 10 14 Z f bJ λa f=>An 11 14 Z f bJ λa f=>An 12 14 Z f bJ λa f=>q_p 13 14 Z f (λ_=>AP (f.e Z) bJ (f.e Z)) λa f=> ?_
      obtain rfl:=sj bE
      exact bI _ (f.k Z)
   ·rintro a w ⟨bt,rfl,bu,bZ,f,m⟩
    have aS:=od1 bZ aS
    refine Ah (Af ?_)
    refine Ab f Z λa f=>Ab f Z λa f=>Ai f Z Z BV λa f=>Aa ?_
    rcases Ae aP with⟨b0,aP⟩|⟨b0,aP⟩
    ·refine Al f Z b0 ?_
     refine Ay Z ?_
     obtain rfl:=sj aP
     obtain rfl:=aQ _ rfl
     exact⟨_,_,Z,_,aN,(gt aR (gt bq bZ)),f.k Z,m,aS⟩
    ·refine Aj f Z b0 ?_
     refine Ao ?_
     refine Ah ?_
     refine Bf AA m ?_
     refine p_p 2 Z f (λ_=>AH (f.e Z)) λa f=>p_p 3 Z f (λ_=>AH (f.e Z)) λa f=>Bg 12013 11 (by kernel_rfl) Z ?_
     refine Ag 0 12013 Z f Z λa f=>Ag 1 12013 Z f Z λa f=>Ag 4 12013 Z f Z λa f=>Ag 5 12013 Z f Z λa f=> ?_
     have⟨b1,b2,aP⟩:=bind_some aP
     refine Ax 6 12013 0 m aS T39 b2 Z f Z Z λb3 a b4 f=>AF 7 12013 0 aS Pl2 b4 b2 Z f Z λb5 a b6 f=> ?_
     subst b6
     refine Ag 8 12013 Z f Z λa f=>Ag 9 12013 Z f Z λa f=> ?_
     have⟨b7,b8,aP⟩:=bind_some aP
     refine Ax 10 12013 0 m aS T39 b8 Z f Z Z λb9 a ca f=>AF 11 12013 0 aS Pl2 ca b8 Z f Z λcb a cc f=> ?_
     subst cc
     have⟨cd,ce,aP⟩:=bind_some aP
     refine Ax 12 12013 0 m aS T39 ce Z f Z Z λcf a cg f=>AJ λch w ci m=> ?_
     have aS:=od1 ci aS
     refine Au 0 m aS Z sizeOf2 f Z Z cg ce Z Z Z λcj w m ck=> ?_
     have⟨cl,cm,aP⟩:=bind_some aP
     refine AV 0 m ck Z T39 f Z Z Z cm λcn a co f=>Au 0 m ck Z sizeOf2 f Z Z co cm Z Z Z λcp w m cq=>Aw ?_
     refine Ab f Z λa f=>Ai f Z Z Ar λa f=>Ac f Z λa f=>Aa (Am ?_)
     refine Ab f Z λa f=>Ai f Z Z AC λa f=>Ac f Z λa f=>Aa ?_
     obtain rfl:=sj aP
     exact⟨_,Z,_,_,_,Z,_,cp,(gt aR (gt bq (gt bZ ci))),f.k Z,m,cq⟩
 ·rintro a w ⟨aE,aF,rfl,aG,aH,cr,f,m,cs⟩
  refine Af ?_
  refine Ab f Z λa f=>Ac f Z λa f=>Aa ?_
  refine Ap ?_
  obtain rfl:=sj hd
  exact⟨[(iv aF)],f.g Z,f.d,_,[aH],(gt ar cr),m,_,Z,Z,cs⟩
theorem Wk.J0 {v0:Value}{it0:Itm}{x0:LI}{x1 x2 x3:Int}(m:Mem W G w (it0::H))(o0:Ow R0 2 G it0 v0 x0){y:Int×Bool×(LI)}(hd:D.J0 x0 x1 x2 x3=some y):
  Calls prog 94 #[v0,(iv x1),(iv x2),(iv x3)] w (Res W G H (λG' Ho v=>∃i0:Itm,Ho=[i0]∧v= .tuple #[(iv y.1),(.bool y.2.1)]∧Ow R0 2 G' i0 v0 y.2.2)):=by
 refine As (args:=[v0,(iv x1),(iv x2),(iv x3)]) (N:=168) [.tmp 8,.tmp 9] func94 Z Z (lb Z) Z λa f=> ?_
 unfold D.J0 at hd
 refine Af ?_
 refine Ac f Z λa f=>Ac f Z λa f=>Aa (Ah ?_)
 refine Bf AA m ?_
 refine p_p 2 Z f (λ_=>AH (f.e Z)) λa f=>p_p 3 Z f (λ_=>AH (f.e Z)) λa f=>Bg 12013 11 (by kernel_rfl) Z ?_
 refine Ag 0 12013 Z f Z λa f=>Ag 1 12013 Z f Z λa f=>Ag 4 12013 Z f Z λa f=>Ag 5 12013 Z f Z λa f=> ?_
 have⟨aa,ab,hd⟩:=bind_some hd
 refine Ax 6 12013 0 m o0 T39 ab Z f Z Z λac a ad f=>AF 7 12013 0 o0 Pl2 ad ab Z f Z λae a af f=> ?_
 subst af
 refine Ag 8 12013 Z f Z λa f=>Ag 9 12013 Z f Z λa f=> ?_
 have⟨ag,ah,hd⟩:=bind_some hd
 refine Ax 10 12013 0 m o0 T39 ah Z f Z Z λai a aj f=>AF 11 12013 0 o0 Pl2 aj ah Z f Z λak a al f=> ?_
 subst al
 have⟨am,an,hd⟩:=bind_some hd
 refine Ax 12 12013 0 m o0 T39 an Z f Z Z λao a ap f=>AJ λaq w ar m=> ?_
 have o0:=od1 ar o0
 refine Au 0 m o0 Z sizeOf2 f Z Z ap an Z Z Z λau w m av=> ?_
 have⟨aw,ax,hd⟩:=bind_some hd
 refine AV 0 m av Z T39 f Z Z Z ax λay a az f=>Au 0 m av Z sizeOf2 f Z Z az ax Z Z Z λaA w m aB=>Aw ?_
 refine Ab f Z λa f=>Ai f Z Z Ar λa f=>Ab f Z λa f=>Ai f Z Z AC λa f=>Ac f Z λa f=>Ac f Z λa f=>Aa (Ah ?_)
 have⟨aC,aD,hd⟩:=bind_some hd
 refine AD (λa w=>∃aE:Int,aE=aC∧∃(aF:GH),GLe aq aF∧Fr a 168 [(0,v0),(1,(iv x1)),(10,(iv aE)),(11,(iv (i64.wrap (x2-1))))]∧Mem W aF w (aA::H)) ?_ ?_
 ·refine Ak ?_
  refine AB (λaG a w=>∃aH:Int,aH=aG∧∃(aI:GH),GLe aq aI∧Fr a 168 [(0,v0),(1,(iv x1)),(10,(iv aH)),(11,(iv (i64.wrap (x2-1))))]∧Mem W aI w (aA::H)) aD ⟨_,Z,_,gr,f.k Z,m⟩ ?_
  clear aD f m
  rintro aG aJ aK aL a w ⟨aH,rfl,aI,aM,f,m⟩
  have aB:=od1 aM aB
  refine Ah (Ah ?_)
  refine A1 14 AA (by kernel_rfl) m ?_
  refine Ag 0 14 Z f Z λa f=>Ag 1 14 Z f Z λa f=>q_p 2 14 Z f (λ_=>AE (f.e Z) (f.e Z) BW) λa f=>Ag 3 14 Z f Z λa f=> ?_
  have⟨aN,aO,aK⟩:=bind_some aK
  refine Bx (fuel':=0) (listed':= #[true,true,true,true,true,true,true,true,true,true,true,true,true,true]) (λa=>Fr a 168 [(0,v0),(1,(iv x1)),(10,(iv aH)),(11,(iv (i64.wrap (x2-1)))),(30,(iv aH)),(31,(iv (i64.wrap (x2-1)))),(32,(.bool (decide (aH≤(i64.wrap (x2-1)))))),(33,(.bool (decide (aH≤(i64.wrap (x2-1)))))),(43,(.bool aN))]) ?_ ?_
  ·intro a f
   refine AJ λaP w aQ m=>Aa ?_
   rcases Ae aK with⟨aR,aK⟩|⟨aR,aK⟩
   ·refine Al f Z aR ?_
    refine Ao ?_
    refine Ak (Am ?_)
    refine Ab f Z λa f=>Ai f Z Z Ar λa f=>Ac f Z λa f=>Aa ?_
    obtain rfl:=sj aK
    exact⟨_,Z,_,Z,_,(gt aM aQ),f.k Z,m⟩
   ·refine Aj f Z aR ?_
    refine Ay Z ?_
    obtain rfl:=sj aK
    obtain rfl:=aL _ rfl
    exact⟨_,Z,_,(gt aM aQ),f.k Z,m⟩
  ·intro aS
   rcases Ae aO with⟨aT,aO⟩|⟨aT,aO⟩
   ·refine Ag (hw:=wo f aT) 4 14 Z f Z λa f=> ?_
    refine Ag (hw:=wo f aT) 5 14 Z f Z λa f=> ?_
    have⟨aU,aV,aO⟩:=bind_some aO
    refine Ax (hw:=wo f aT) 6 14 0 m aB T39 aV Z f Z Z λaW a aX f=>AF (hw:=wo f aT) 7 14 0 aB Pl2 aX aV Z f Z λaY a aZ f=> ?_
    subst aZ
    refine Ag (hw:=wo f aT) 8 14 Z f Z λa f=>Ag (hw:=wo f aT) 9 14 Z f Z λa f=> ?_
    have⟨a0,a1,aO⟩:=bind_some aO
    refine Ax (hw:=wo f aT) 10 14 0 m aB T39 a1 Z f Z Z λa2 a a3 f=>AF (hw:=wo f aT) 11 14 0 aB Pl2 a3 a1 Z f Z λa4 a a5 f=> ?_
    subst a5
    have⟨a6,a7,aO⟩:=bind_some aO
    refine Bb (i:=12) 14 Z (by kernel_rfl) Z f (AZ f Z Z Z aT) Z Z call92 (λ_ _ w a8 m=>Wk.c m a7) λa f=>q_p 13 14 Z f (λ_=>AO (f.e Z) aT (f.e Z)) λa f=> ?_
    obtain rfl:=sj aO
    exact aS _ (f.k Z)
   ·refine An 4 14 Z f aT λa f=> ?_
    refine An 5 14 Z f aT λa f=>An 6 14 Z f aT λa f=>An 7 14 Z f aT λa f=>An 8 14 Z f aT λa f=>An 9 14 Z f aT λa f=>An 10 14 Z f aT λa f=>An 11 14 Z f aT λa f=>An 12 14 Z f aT λa f=>q_p 13 14 Z f (λ_=>AP (f.e Z) aT (f.e Z)) λa f=> ?_
    obtain rfl:=sj aO
    exact aS _ (f.k Z)
 ·rintro a w ⟨aE,rfl,aF,a9,f,m⟩
  have aB:=od1 a9 aB
  refine Ah ?_
  have⟨ba,bb,hd⟩:=bind_some hd
  refine AD (λa w=>∃bc:Int,bc=ba∧∃(bd:GH),GLe aF bd∧Fr a 168 [(0,v0),(1,(iv x1)),(10,(iv aE)),(11,(iv bc))]∧Mem W bd w (aA::H)) ?_ ?_
  ·refine Ak ?_
   refine AB (λbe a w=>∃bf:Int,bf=be∧∃(bg:GH),GLe aF bg∧Fr a 168 [(0,v0),(1,(iv x1)),(10,(iv aE)),(11,(iv bf))]∧Mem W bg w (aA::H)) bb ⟨_,Z,_,gr,f.k Z,m⟩ ?_
   clear bb f m
   rintro be bh bi bj a w ⟨bf,rfl,bg,bk,f,m⟩
   have aB:=od1 bk aB
   refine Ah (Ah ?_)
   refine A1 15 AA (by kernel_rfl) m ?_
   refine Ag 0 15 Z f Z λa f=>Ag 1 15 Z f Z λa f=>q_p 2 15 Z f (λ_=>AE (f.e Z) (f.e Z) BW) λa f=>Ag 3 15 Z f Z λa f=> ?_
   have⟨bl,bm,bi⟩:=bind_some bi
   refine Bx (fuel':=0) (listed':= #[true,true,true,true,true,true,true,true,true,true,true,true,true,true,true]) (λa=>Fr a 168 [(0,v0),(1,(iv x1)),(10,(iv aE)),(11,(iv bf)),(46,(iv aE)),(47,(iv bf)),(48,(.bool (decide (aE≤bf)))),(49,(.bool (decide (aE≤bf)))),(60,(.bool bl))]) ?_ ?_
   ·intro a f
    refine AJ λbn w bo m=>Aa ?_
    rcases Ae bi with⟨bp,bi⟩|⟨bp,bi⟩
    ·refine Al f Z bp ?_
     refine Ao ?_
     refine Ak (Am ?_)
     refine Ab f Z λa f=>Ai f Z Z AC λa f=>Ac f Z λa f=>Aa ?_
     obtain rfl:=sj bi
     exact⟨_,Z,_,Z,_,(gt bk bo),f.k Z,m⟩
    ·refine Aj f Z bp ?_
     refine Ay Z ?_
     obtain rfl:=sj bi
     obtain rfl:=bj _ rfl
     exact⟨_,Z,_,(gt bk bo),f.k Z,m⟩
   ·intro bq
    rcases Ae bm with⟨br,bm⟩|⟨br,bm⟩
    ·refine Ag (hw:=wo f br) 4 15 Z f Z λa f=> ?_
     refine Ag (hw:=wo f br) 5 15 Z f Z λa f=> ?_
     have⟨bs,bt,bm⟩:=bind_some bm
     refine Ax (hw:=wo f br) 6 15 0 m aB T39 bt Z f Z Z λbu a bv f=>AF (hw:=wo f br) 7 15 0 aB Pl2 bv bt Z f Z λbw a bx f=> ?_
     subst bx
     refine Ag (hw:=wo f br) 8 15 Z f Z λa f=>Ag (hw:=wo f br) 9 15 Z f Z λa f=> ?_
     have⟨bz,bA,bm⟩:=bind_some bm
     refine Ax (hw:=wo f br) 10 15 0 m aB T39 bA Z f Z Z λbB a bC f=>AF (hw:=wo f br) 11 15 0 aB Pl2 bC bA Z f Z λbD a bE f=> ?_
     subst bE
     have⟨bF,bG,bm⟩:=bind_some bm
     refine Bb (i:=12) 15 Z (by kernel_rfl) Z f (AZ f Z Z Z br) Z Z call92 (λ_ _ w bH m=>Wk.c m bG) λa f=>q_p (hw:=wo f br) 13 15 Z f (λ_=>Be (f.e Z)) λa f=>q_p 14 15 Z f (λ_=>AO (f.e Z) br (f.e Z)) λa f=> ?_
     obtain rfl:=sj bm
     exact bq _ (f.k Z)
    ·refine An 4 15 Z f br λa f=> ?_
     refine An 5 15 Z f br λa f=>An 6 15 Z f br λa f=>An 7 15 Z f br λa f=>An 8 15 Z f br λa f=>An 9 15 Z f br λa f=>An 10 15 Z f br λa f=>An 11 15 Z f br λa f=>An 12 15 Z f br λa f=>An 13 15 Z f br λa f=>q_p 14 15 Z f (λ_=>AP (f.e Z) br (f.e Z)) λa f=> ?_
     obtain rfl:=sj bm
     exact bq _ (f.k Z)
  ·rintro a w ⟨bc,rfl,bd,bI,f,m⟩
   have aB:=od1 bI aB
   refine Ah (Af ?_)
   refine Ab f Z λa f=>Ab f Z λa f=>Ai f Z Z BV λa f=>Aa ?_
   rcases Ae hd with⟨bJ,hd⟩|⟨bJ,hd⟩
   ·refine Al f Z bJ ?_
    refine Ah ?_
    refine Bf AA m ?_
    refine p_p 2 Z f (λ_=>AH (f.e Z)) λa f=>p_p 3 Z f (λ_=>AH (f.e Z)) λa f=>Bg 12013 11 (by kernel_rfl) Z ?_
    refine Ag 0 12013 Z f Z λa f=>Ag 1 12013 Z f Z λa f=>Ag 4 12013 Z f Z λa f=>Ag 5 12013 Z f Z λa f=> ?_
    have⟨bK,bL,hd⟩:=bind_some hd
    refine Ax 6 12013 0 m aB T39 bL Z f Z Z λbM a bN f=>AF 7 12013 0 aB Pl2 bN bL Z f Z λbO a bP f=> ?_
    subst bP
    refine Ag 8 12013 Z f Z λa f=>Ag 9 12013 Z f Z λa f=> ?_
    have⟨bQ,bR,hd⟩:=bind_some hd
    refine Ax 10 12013 0 m aB T39 bR Z f Z Z λbS a bT f=>AF 11 12013 0 aB Pl2 bT bR Z f Z λbU a bV f=> ?_
    subst bV
    have⟨bW,bX,hd⟩:=bind_some hd
    refine Ax 12 12013 0 m aB T39 bX Z f Z Z λbY a bZ f=>AJ λb0 w b1 m=> ?_
    have aB:=od1 b1 aB
    refine Au 0 m aB Z sizeOf2 f Z Z bZ bX Z Z Z λb2 w m b3=> ?_
    have⟨b4,b5,hd⟩:=bind_some hd
    refine AV 0 m b3 Z T39 f Z Z Z b5 λb6 a b7 f=>Au 0 m b3 Z sizeOf2 f Z Z b7 b5 Z Z Z λb8 w m b9=>Aw ?_
    refine Ab f Z λa f=>Ac f Z λa f=>Ac f Z λa f=>Aa ?_
    refine Ap ?_
    obtain rfl:=sj hd
    exact⟨[(iv bc),(.bool true)],⟨f.get _ _ Z,f.get _ _ Z,trivial⟩,f.d,_,[b8],(gt ar (gt a9 (gt bI b1))),m,_,Z,Z,b9⟩
   ·refine Aj f Z bJ ?_
    refine Ao ?_
    refine Ah ?_
    refine Bf AA m ?_
    refine p_p 2 Z f (λ_=>AH (f.e Z)) λa f=>p_p 3 Z f (λ_=>AH (f.e Z)) λa f=>Bg 12013 11 (by kernel_rfl) Z ?_
    refine Ag 0 12013 Z f Z λa f=>Ag 1 12013 Z f Z λa f=>Ag 4 12013 Z f Z λa f=>Ag 5 12013 Z f Z λa f=> ?_
    have⟨ca,cb,hd⟩:=bind_some hd
    refine Ax 6 12013 0 m aB T39 cb Z f Z Z λcc a cd f=>AF 7 12013 0 aB Pl2 cd cb Z f Z λce a cf f=> ?_
    subst cf
    refine Ag 8 12013 Z f Z λa f=>Ag 9 12013 Z f Z λa f=> ?_
    have⟨cg,ch,hd⟩:=bind_some hd
    refine Ax 10 12013 0 m aB T39 ch Z f Z Z λci a cj f=>AF 11 12013 0 aB Pl2 cj ch Z f Z λck a cl f=> ?_
    subst cl
    have⟨cm,cn,hd⟩:=bind_some hd
    refine Ax 12 12013 0 m aB T39 cn Z f Z Z λco a cp f=>AJ λcq w cr m=> ?_
    have aB:=od1 cr aB
    refine Au 0 m aB Z sizeOf2 f Z Z cp cn Z Z Z λcs w m ct=> ?_
    have⟨cu,cv,hd⟩:=bind_some hd
    refine AV 0 m ct Z T39 f Z Z Z cv λcw a cx f=>Au 0 m ct Z sizeOf2 f Z Z cx cv Z Z Z λcy w m cz=>Aw ?_
    refine Ab f Z λa f=>Ai f Z Z Ar λa f=>Ac f Z λa f=>Aw ?_
    refine Ab f Z λa f=>Ai f Z Z AC λa f=>Ac f Z λa f=>Aa (Ah ?_)
    have⟨cA,cB,hd⟩:=bind_some hd
    refine AD (λa w=>∃cC:LI,∃cD:Int,(cC,cD)=cA∧∃(cE:GH) (cF:Itm),GLe cq cE∧Fr a 168 [(0,v0),(1,(iv x1)),(11,(iv cD))]∧Mem W cE w (cF::H)∧Ow R0 2 cE cF v0 cC) ?_ ?_
    ·refine Ak ?_
     refine AB (λcG a w=>∃cH:LI,∃cI:Int,∃cJ:Int,(cH,cI,cJ)=cG∧∃(cK:GH) (cL:Itm),GLe cq cK∧Fr a 168 [(0,v0),(1,(iv x1)),(10,(iv cI)),(11,(iv cJ))]∧Mem W cK w (cL::H)∧Ow R0 2 cK cL v0 cH) cB ⟨_,_,_,Z,_,cy,gr,f.k Z,m,cz⟩ ?_
     clear cB f m
     rintro cG cM cN cO a w ⟨cH,cI,cJ,rfl,cK,cL,cP,f,m,cQ⟩
     refine Ak (Ah ?_)
     have⟨cR,cS,cN⟩:=bind_some cN
     refine AD (λa w=>∃cT:Int,cT=cR∧∃(cU:GH),GLe cK cU∧Fr a 168 [(0,v0),(1,(iv x1)),(10,(iv cT)),(11,(iv cJ))]∧Mem W cU w (cL::H)) ?_ ?_
     ·refine Ak ?_
      refine AB (λcV a w=>∃cW:Int,cW=cV∧∃(cX:GH),GLe cK cX∧Fr a 168 [(0,v0),(1,(iv x1)),(10,(iv cW)),(11,(iv cJ))]∧Mem W cX w (cL::H)) cS ⟨_,Z,_,gr,f.k Z,m⟩ ?_
      clear cS f m
      rintro cV cY cZ c0 a w ⟨cW,rfl,cX,c1,f,m⟩
      have cQ:=od1 c1 cQ
      refine Ah (Ah ?_)
      refine A1 14 AA (by kernel_rfl) m ?_
      refine Ag 0 14 Z f Z λa f=>Ag 1 14 Z f Z λa f=>q_p 2 14 Z f (λ_=>AE (f.e Z) (f.e Z) BW) λa f=>Ag 3 14 Z f Z λa f=> ?_
      have⟨c2,c3,cZ⟩:=bind_some cZ
      refine Bx (fuel':=0) (listed':= #[true,true,true,true,true,true,true,true,true,true,true,true,true,true]) (λa=>Fr a 168 [(0,v0),(1,(iv x1)),(10,(iv cW)),(11,(iv cJ)),(99,(iv cW)),(100,(iv cJ)),(101,(.bool (decide (cW≤cJ)))),(102,(.bool (decide (cW≤cJ)))),(112,(.bool c2))]) ?_ ?_
      ·intro a f
       refine AJ λc4 w c5 m=>Aa ?_
       rcases Ae cZ with⟨c6,cZ⟩|⟨c6,cZ⟩
       ·refine Al f Z c6 ?_
        refine Ao ?_
        refine Ak (Am ?_)
        refine Ab f Z λa f=>Ai f Z Z Ar λa f=>Ac f Z λa f=>Aa ?_
        obtain rfl:=sj cZ
        exact⟨_,Z,_,Z,_,(gt c1 c5),f.k Z,m⟩
       ·refine Aj f Z c6 ?_
        refine Ay Z ?_
        obtain rfl:=sj cZ
        obtain rfl:=c0 _ rfl
        exact⟨_,Z,_,(gt c1 c5),f.k Z,m⟩
      ·intro c7
       rcases Ae c3 with⟨c8,c3⟩|⟨c8,c3⟩
       ·refine Ag (hw:=wo f c8) 4 14 Z f Z λa f=> ?_
        refine Ag (hw:=wo f c8) 5 14 Z f Z λa f=> ?_
        have⟨c9,da,c3⟩:=bind_some c3
        refine Ax (hw:=wo f c8) 6 14 0 m cQ T39 da Z f Z Z λdb a dc f=>AF (hw:=wo f c8) 7 14 0 cQ Pl2 dc da Z f Z λdd a de f=> ?_
        subst de
        refine Ag (hw:=wo f c8) 8 14 Z f Z λa f=>Ag (hw:=wo f c8) 9 14 Z f Z λa f=> ?_
        have⟨df,dg,c3⟩:=bind_some c3
        refine Ax (hw:=wo f c8) 10 14 0 m cQ T39 dg Z f Z Z λdh a di f=>AF (hw:=wo f c8) 11 14 0 cQ Pl2 di dg Z f Z λdj a dk f=> ?_
        subst dk
        have⟨dl,dm,c3⟩:=bind_some c3
        refine Bb (i:=12) 14 Z (by kernel_rfl) Z f (AZ f Z Z Z c8) Z Z call92 (λ_ _ w dn m=>Wk.c m dm) λa f=>q_p 13 14 Z f (λ_=>AO (f.e Z) c8 (f.e Z)) λa f=> ?_
        obtain rfl:=sj c3
        exact c7 _ (f.k Z)
       ·refine An 4 14 Z f c8 λa f=> ?_
        refine An 5 14 Z f c8 λa f=>An 6 14 Z f c8 λa f=>An 7 14 Z f c8 λa f=>An 8 14 Z f c8 λa f=>An 9 14 Z f c8 λa f=>An 10 14 Z f c8 λa f=>An 11 14 Z f c8 λa f=>An 12 14 Z f c8 λa f=>q_p 13 14 Z f (λ_=>AP (f.e Z) c8 (f.e Z)) λa f=> ?_
        obtain rfl:=sj c3
        exact c7 _ (f.k Z)
     ·rintro a w ⟨cT,rfl,cU,dp,f,m⟩
      have cQ:=od1 dp cQ
      refine Ah ?_
      have⟨dq,dr,cN⟩:=bind_some cN
      refine AD (λa w=>∃ds:Int,ds=dq∧∃(dt:GH),GLe cU dt∧Fr a 168 [(0,v0),(1,(iv x1)),(10,(iv cT)),(11,(iv ds))]∧Mem W dt w (cL::H)) ?_ ?_
      ·refine Ak ?_
       refine AB (λdu a w=>∃dv:Int,dv=du∧∃(dw:GH),GLe cU dw∧Fr a 168 [(0,v0),(1,(iv x1)),(10,(iv cT)),(11,(iv dv))]∧Mem W dw w (cL::H)) dr ⟨_,Z,_,gr,f.k Z,m⟩ ?_
       clear dr f m
       rintro du dx dy dz a w ⟨dv,rfl,dw,dA,f,m⟩
       have cQ:=od1 dA cQ
       refine Ah (Ah ?_)
       refine A1 15 AA (by kernel_rfl) m ?_
       refine Ag 0 15 Z f Z λa f=>Ag 1 15 Z f Z λa f=>q_p 2 15 Z f (λ_=>AE (f.e Z) (f.e Z) BW) λa f=>Ag 3 15 Z f Z λa f=> ?_
       have⟨dB,dC,dy⟩:=bind_some dy
       refine Bx (fuel':=0) (listed':= #[true,true,true,true,true,true,true,true,true,true,true,true,true,true,true]) (λa=>Fr a 168 [(0,v0),(1,(iv x1)),(10,(iv cT)),(11,(iv dv)),(115,(iv cT)),(116,(iv dv)),(117,(.bool (decide (cT≤dv)))),(118,(.bool (decide (cT≤dv)))),(129,(.bool dB))]) ?_ ?_
       ·intro a f
        refine AJ λdD w dE m=>Aa ?_
        rcases Ae dy with⟨dF,dy⟩|⟨dF,dy⟩
        ·refine Al f Z dF ?_
         refine Ao ?_
         refine Ak (Am ?_)
         refine Ab f Z λa f=>Ai f Z Z AC λa f=>Ac f Z λa f=>Aa ?_
         obtain rfl:=sj dy
         exact⟨_,Z,_,Z,_,(gt dA dE),f.k Z,m⟩
        ·refine Aj f Z dF ?_
         refine Ay Z ?_
         obtain rfl:=sj dy
         obtain rfl:=dz _ rfl
         exact⟨_,Z,_,(gt dA dE),f.k Z,m⟩
       ·intro dG
        rcases Ae dC with⟨dH,dC⟩|⟨dH,dC⟩
        ·refine Ag (hw:=wo f dH) 4 15 Z f Z λa f=> ?_
         refine Ag (hw:=wo f dH) 5 15 Z f Z λa f=> ?_
         have⟨dI,dJ,dC⟩:=bind_some dC
         refine Ax (hw:=wo f dH) 6 15 0 m cQ T39 dJ Z f Z Z λdK a dL f=>AF (hw:=wo f dH) 7 15 0 cQ Pl2 dL dJ Z f Z λdM a dN f=> ?_
         subst dN
         refine Ag (hw:=wo f dH) 8 15 Z f Z λa f=>Ag (hw:=wo f dH) 9 15 Z f Z λa f=> ?_
         have⟨dO,dP,dC⟩:=bind_some dC
         refine Ax (hw:=wo f dH) 10 15 0 m cQ T39 dP Z f Z Z λdQ a dR f=>AF (hw:=wo f dH) 11 15 0 cQ Pl2 dR dP Z f Z λdS a dT f=> ?_
         subst dT
         have⟨dU,dV,dC⟩:=bind_some dC
         refine Bb (i:=12) 15 Z (by kernel_rfl) Z f (AZ f Z Z Z dH) Z Z call92 (λ_ _ w dW m=>Wk.c m dV) λa f=>q_p (hw:=wo f dH) 13 15 Z f (λ_=>Be (f.e Z)) λa f=>q_p 14 15 Z f (λ_=>AO (f.e Z) dH (f.e Z)) λa f=> ?_
         obtain rfl:=sj dC
         exact dG _ (f.k Z)
        ·refine An 4 15 Z f dH λa f=> ?_
         refine An 5 15 Z f dH λa f=>An 6 15 Z f dH λa f=>An 7 15 Z f dH λa f=>An 8 15 Z f dH λa f=>An 9 15 Z f dH λa f=>An 10 15 Z f dH λa f=>An 11 15 Z f dH λa f=>An 12 15 Z f dH λa f=>An 13 15 Z f dH λa f=>q_p 14 15 Z f (λ_=>AP (f.e Z) dH (f.e Z)) λa f=> ?_
         obtain rfl:=sj dC
         exact dG _ (f.k Z)
      ·rintro a w ⟨ds,rfl,dt,dX,f,m⟩
       have cQ:=od1 dX cQ
       refine Ah (Af ?_)
       refine Ab f Z λa f=>Ab f Z λa f=>Ai f Z Z BV λa f=>Aa ?_
       rcases Ae cN with⟨dY,cN⟩|⟨dY,cN⟩
       ·refine Al f Z dY ?_
        refine Ay Z ?_
        obtain rfl:=sj cN
        obtain rfl:=cO _ rfl
        exact⟨_,_,Z,_,cL,(gt cP (gt dp dX)),f.k Z,m,cQ⟩
       ·refine Aj f Z dY ?_
        refine Ao ?_
        refine Ah ?_
        refine Bf AA m ?_
        refine p_p 2 Z f (λ_=>AH (f.e Z)) λa f=>p_p 3 Z f (λ_=>AH (f.e Z)) λa f=>Bg 12013 11 (by kernel_rfl) Z ?_
        refine Ag 0 12013 Z f Z λa f=>Ag 1 12013 Z f Z λa f=>Ag 4 12013 Z f Z λa f=>Ag 5 12013 Z f Z λa f=> ?_
        have⟨dZ,d0,cN⟩:=bind_some cN
        refine Ax 6 12013 0 m cQ T39 d0 Z f Z Z λd1 a d2 f=>AF 7 12013 0 cQ Pl2 d2 d0 Z f Z λd3 a d4 f=> ?_
        subst d4
        refine Ag 8 12013 Z f Z λa f=>Ag 9 12013 Z f Z λa f=> ?_
        have⟨d5,d6,cN⟩:=bind_some cN
        refine Ax 10 12013 0 m cQ T39 d6 Z f Z Z λd7 a d8 f=>AF 11 12013 0 cQ Pl2 d8 d6 Z f Z λd9 a ea f=> ?_
        subst ea
        have⟨eb,ec,cN⟩:=bind_some cN
        refine Ax 12 12013 0 m cQ T39 ec Z f Z Z λed a ee f=>AJ λef w eg m=> ?_
        have cQ:=od1 eg cQ
        refine Au 0 m cQ Z sizeOf2 f Z Z ee ec Z Z Z λeh w m ei=> ?_
        have⟨ej,ek,cN⟩:=bind_some cN
        refine AV 0 m ei Z T39 f Z Z Z ek λel a em f=>Au 0 m ei Z sizeOf2 f Z Z em ek Z Z Z λen w m eo=>Aw ?_
        refine Ab f Z λa f=>Ai f Z Z Ar λa f=>Ac f Z λa f=>Aa (Am ?_)
        refine Ab f Z λa f=>Ai f Z Z AC λa f=>Ac f Z λa f=>Aa ?_
        obtain rfl:=sj cN
        exact⟨_,Z,_,_,_,Z,_,en,(gt cP (gt dp (gt dX eg))),f.k Z,m,eo⟩
    ·rintro a w ⟨cC,cD,rfl,cE,cF,ep,f,m,eq⟩
     refine Ah ?_
     refine Bf AA m ?_
     refine p_p 2 Z f (λ_=>AH (f.e Z)) λa f=>p_p 3 Z f (λ_=>AH (f.e Z)) λa f=>Bg 12013 11 (by kernel_rfl) Z ?_
     refine Ag 0 12013 Z f Z λa f=>Ag 1 12013 Z f Z λa f=>Ag 4 12013 Z f Z λa f=>Ag 5 12013 Z f Z λa f=> ?_
     have⟨er,es,hd⟩:=bind_some hd
     refine Ax 6 12013 0 m eq T39 es Z f Z Z λet a eu f=>AF 7 12013 0 eq Pl2 eu es Z f Z λev a ew f=> ?_
     subst ew
     refine Ag 8 12013 Z f Z λa f=>Ag 9 12013 Z f Z λa f=> ?_
     have⟨ex,ey,hd⟩:=bind_some hd
     refine Ax 10 12013 0 m eq T39 ey Z f Z Z λez a eA f=>AF 11 12013 0 eq Pl2 eA ey Z f Z λeB a eC f=> ?_
     subst eC
     have⟨eD,eE,hd⟩:=bind_some hd
     refine Ax 12 12013 0 m eq T39 eE Z f Z Z λeF a eG f=>AJ λeH w eI m=> ?_
     have eq:=od1 eI eq
     refine Au 0 m eq Z sizeOf2 f Z Z eG eE Z Z Z λeJ w m eK=> ?_
     have⟨eL,eM,hd⟩:=bind_some hd
     refine AV 0 m eK Z T39 f Z Z Z eM λeN a eO f=>Au 0 m eK Z sizeOf2 f Z Z eO eM Z Z Z λeP w m eQ=>Aw ?_
     refine Ab f Z λa f=>Ac f Z λa f=>Ac f Z λa f=>Aa ?_
     refine Ap ?_
     obtain rfl:=sj hd
     exact⟨[(iv cD),(.bool false)],⟨f.get _ _ Z,f.get _ _ Z,trivial⟩,f.d,_,[eP],(gt ar (gt a9 (gt bI (gt cr (gt ep eI))))),m,_,Z,Z,eQ⟩
theorem Wk.F {W:World}(n:Nat):∀{w:World} {G:GH} {H:List Itm} {v0:Value} {it0:Itm} {x0:LI} {x1 x2 x3:Int} (m:Mem W G w (it0::H)) (o0:Ow R0 2 G it0 v0 x0) {y:(LI)} (hd:D.F n x0 x1 x2 x3=some y),
  Calls prog 82 #[v0,(iv x1),(iv x2),(iv x3)] w (Res W G H (λG' Ho _=>∃i0:Itm,Ho=[i0]∧Ow R0 2 G' i0 v0 y)):=by
 induction n with
 |zero=>intros;rename_i hd;simp[D.F] at hd
 |succ fuel ih=>
  intro w G H v0 it0 x0 x1 x2 x3 m o0 y hd
  refine As (args:=[v0,(iv x1),(iv x2),(iv x3)]) (N:=134) [] func82 Z Z (lb Z) Z λa f=> ?_
  unfold D.F at hd
  refine Af ?_
  refine Ac f Z λa f=>Aw ?_
  refine Ac f Z λa f=>Aa ?_
  have⟨aa,ab,hd⟩:=bind_some hd
  refine Ak ?_
  refine AB (λac a w=>∃ad:LI,∃ae:Int,∃af:Int,∃ag:Int,∃ah:Bool,∃ai:Bool,(ad,ae,af,ag,ah,ai)=ac∧∃(aj:GH) (ak:Itm),GLe G aj∧Fr a 134 [(0,v0),(1,(iv ae)),(2,(iv af)),(3,(iv ag)),(8,(.bool ah)),(9,(.bool ai))]∧Mem W aj w (ak::H)∧Ow R0 2 aj ak v0 ad) ab ⟨_,_,_,_,_,_,Z,_,it0,gr,f.k Z,m,o0⟩ ?_
  clear ab f m
  rintro ac al am an a w ⟨ad,ae,af,ag,ah,ai,rfl,aj,ak,ao,f,m,ap⟩
  refine Ak (Af ?_)
  refine Ab f Z λa f=>Ab f Z λa f=>Ai f Z Z AC λa f=>Ac f Z λa f=>Aa (Ah (Af ?_))
  refine Ab f Z λa f=>Ai f Z Z BW λa f=>Aa ?_
  rcases Ae am with⟨aq,am⟩|⟨aq,am⟩
  ·refine Al f Z aq ?_
   refine Af ?_
   refine Ab f Z λa f=>Ab f Z λa f=>Ab f Z λa f=> ?_
   have⟨ar,au,am⟩:=bind_some am
   refine AM f Z call86 (Wk.H0 m ap au) λav aw ax w ay m az a f=> ?_
   obtain⟨aA,rfl,aB⟩:=az
   refine Aa ?_
   refine Ap ?_
   obtain rfl:=sj am
   obtain rfl:=an _ rfl
   obtain rfl:=sj hd
   exact⟨[],trivial,f.d,_,[aA],(gt ao ay),m,_,Z,aB⟩
  ·refine Aj f Z aq ?_
   refine Ao ?_
   refine Ah (Af ?_)
   refine Ab f Z λa f=>Ai f Z Z Bv λa f=>Aa ?_
   rcases Ae am with⟨aC,am⟩|⟨aC,am⟩
   ·refine Al f Z aC ?_
    refine Af ?_
    refine Ab f Z λa f=>Ab f Z λa f=>Ab f Z λa f=> ?_
    have⟨aD,aE,am⟩:=bind_some am
    refine AM f Z call87 (Wk.I0 m ap aE) λaF aG aH w aI m aJ a f=> ?_
    obtain⟨aK,rfl,aL⟩:=aJ
    refine Aa ?_
    refine Ap ?_
    obtain rfl:=sj am
    obtain rfl:=an _ rfl
    obtain rfl:=sj hd
    exact⟨[],trivial,f.d,_,[aK],(gt ao aI),m,_,Z,aL⟩
   ·refine Aj f Z aC ?_
    refine Ao ?_
    refine Ah (Af ?_)
    refine Ab f Z λa f=>l_o f (Be (f.e Z)) λa f=>Aa ?_
    have⟨aM,aN,am⟩:=bind_some am
    refine AD (λa w=>∃aO:LI,∃aP:Int,(aO,aP)=aM∧∃(aQ:GH) (aR:Itm),GLe aj aQ∧Fr a 134 [(0,v0),(1,(iv ae)),(2,(iv af)),(3,(iv aP)),(8,(.bool ah)),(9,(.bool ai)),(10,(iv (i64.wrap (af-ae))))]∧Mem W aQ w (aR::H)∧Ow R0 2 aQ aR v0 aO) ?_ ?_
    ·rcases Ae aN with⟨aS,aN⟩|⟨aS,aN⟩
     ·refine Al f Z aS ?_
      refine Af ?_
      refine Ab f Z λa f=>Ab f Z λa f=>Ab f Z λa f=> ?_
      have⟨aT,aU,aN⟩:=bind_some aN
      refine AM f Z call88 (Wk.u0 m ap aU) λaV aW aX w aY m aZ a f=> ?_
      obtain⟨a0,rfl,a1⟩:=aZ
      refine Aa (Am ?_)
      refine Ab f Z λa f=>Ai f Z Z AC λa f=>Ac f Z λa f=>Aa ?_
      obtain rfl:=sj aN
      exact⟨_,_,Z,_,a0,aY,f.k Z,m,a1⟩
     ·refine Aj f Z aS ?_
      refine Ao ?_
      obtain rfl:=sj aN
      exact⟨_,_,Z,_,ak,gr,f.k Z,m,ap⟩
    ·rintro a w ⟨aO,aP,rfl,aQ,aR,a2,f,m,a3⟩
     refine Af ?_
     refine Ab f Z λa f=>Ab f Z λa f=>Ab f Z λa f=> ?_
     have⟨a4,a5,am⟩:=bind_some am
     refine AM f Z call89 (Wk.z0 m a3 a5) λa6 a7 a8 w a9 m ba a f=> ?_
     obtain⟨bb,rfl,rfl,bc⟩:=ba
     refine Ab f Z λa f=>l_o f (A6 (f.e Z) Z) λa f=>l_o f (A6 (f.e Z) Z) λa f=>Ac f Z λa f=>Ac f Z λa f=>Aa (Ah (Af ?_))
     refine Ab f Z λa f=>Ai f Z Z Bv λa f=>Aa ?_
     have⟨bd,be,am⟩:=bind_some am
     refine AD (λa w=>∃bf:LI,∃bg:Int,∃bh:Int,(bf,bg,bh)=bd∧∃(bi:GH) (bj:Itm),GLe a7 bi∧Fr a 134 [(0,v0),(1,(iv ae)),(2,(iv af)),(3,(iv aP)),(8,(.bool ah)),(9,(.bool ai)),(10,(iv (i64.wrap (af-ae)))),(11,(iv bg)),(12,(iv bh))]∧Mem W bi w (bj::H)∧Ow R0 2 bi bj v0 bf) ?_ ?_
     ·rcases Ae be with⟨bk,be⟩|⟨bk,be⟩
      ·refine Al f Z bk ?_
       refine Af ?_
       refine Ab f Z λa f=>Ab f Z λa f=>Ab f Z λa f=> ?_
       have⟨bl,bm,be⟩:=bind_some be
       refine AM f Z call90 (Wk.w0 m bc bm) λbn bo bp w bq m br a f=> ?_
       obtain⟨bs,rfl,bt⟩:=br
       refine Aw ?_
       refine Ab f Z λa f=>Ai f Z Z AC λa f=>Ab f Z λa f=>Ab f Z λa f=>Ai f Z Z AC λa f=>Ai f Z Z AC λa f=>Ac f Z λa f=>Aa (Am ?_)
       refine Ac f Z λa f=>Aa ?_
       obtain rfl:=sj be
       exact⟨_,_,_,Z,_,bs,bq,f.k Z,m,bt⟩
      ·refine Aj f Z bk ?_
       refine Ao ?_
       obtain rfl:=sj be
       exact⟨_,_,_,Z,_,bb,gr,f.k Z,m,bc⟩
     ·rintro a w ⟨bf,bg,bh,rfl,bi,bj,bu,f,m,bv⟩
      refine Ah (Af ?_)
      refine Ab f Z λa f=>Ab f Z λa f=> ?_
      refine BF 2 (λa w=>∃bw,GLe bi bw∧Mem W bw w (bj::H)∧Fr a 134 [(0,v0),(1,(iv ae)),(2,(iv af)),(3,(iv aP)),(8,(.bool ah)),(9,(.bool ai)),(10,(iv (i64.wrap (af-ae)))),(11,(iv bg)),(12,(iv bh)),(61,(.bool ah)),(62,(.bool ah)),(64,(.bool (ah&&ai)))]) ?_ ?_
      ·rcases Bool.eq_false_or_eq_true ah with bx|bx
       ·refine AG f bx ?_
        refine Ab f Z λa f=>l_o f (AO (f.e Z) bx (f.e Z)) λa f=> ?_
        exact⟨_,gr,m,f.weak ⟨Z,Z,Z,Z,Z,Z,Z,Z,Z,Z,Z,by rw[bx];rfl,trivial⟩⟩
       ·refine AL f bx λa f=> ?_
        refine l_o f (AP (f.e Z) bx (f.e Z)) λa f=> ?_
        exact⟨_,gr,m,f.weak ⟨Z,Z,Z,Z,Z,Z,Z,Z,Z,Z,Z,by rw[bx];rfl,trivial⟩⟩
      ·rintro a w ⟨bw,bz,m,f⟩
       have bv:=od1 bz bv
       refine Ab f Z λa f=> ?_
       refine BF 3 (λa w=>∃bA,GLe bw bA∧Mem W bA w (bj::H)∧Fr a 134 [(0,v0),(1,(iv ae)),(2,(iv af)),(3,(iv aP)),(8,(.bool ah)),(9,(.bool ai)),(10,(iv (i64.wrap (af-ae)))),(11,(iv bg)),(12,(iv bh)),(61,(.bool ah)),(62,(.bool ah)),(64,(.bool (ah&&ai))),(65,(.bool (ah&&ai))),(68,(.bool ((ah&&ai)&&(bh==1))))]) ?_ ?_
       ·rcases Bool.eq_false_or_eq_true (ah&&ai) with bB|bB
        ·refine AG f bB ?_
         refine Ab f Z λa f=>AG f bB ?_
         refine Ai f Z Z Bv λa f=>l_o f (AO (f.e Z) bB (f.e Z)) λa f=> ?_
         exact⟨_,gr,m,f.weak ⟨Z,Z,Z,Z,Z,Z,Z,Z,Z,Z,Z,Z,Z,by rw[bB];rfl,trivial⟩⟩
        ·refine AL f bB λa f=> ?_
         refine AL f bB λa f=>l_o f (AP (f.e Z) bB (f.e Z)) λa f=> ?_
         exact⟨_,gr,m,f.weak ⟨Z,Z,Z,Z,Z,Z,Z,Z,Z,Z,Z,Z,Z,by rw[bB];rfl,trivial⟩⟩
       ·rintro a w ⟨bA,bC,m,f⟩
        have bv:=od1 bC bv
        refine Aa ?_
        have⟨bD,bE,am⟩:=bind_some am
        refine AD (λa w=>∃j_513':LI,bD= .inl j_513'∧∃bF:LI,bF=j_513'∧∃(bG:GH) (bH:Itm),GLe bA bG∧Fr a 134 [(0,v0),(1,(iv ae)),(2,(iv af)),(3,(iv aP)),(8,(.bool ah)),(9,(.bool ai)),(10,(iv (i64.wrap (af-ae)))),(11,(iv bg))]∧Mem W bG w (bH::H)∧Ow R0 2 bG bH v0 bF) ?_ ?_
        ·rcases Ae bE with⟨bI,bE⟩|⟨bI,bE⟩
         ·refine Al f Z bI ?_
          refine Af ?_
          refine Ab f Z λa f=>Ab f Z λa f=>Ab f Z λa f=> ?_
          have⟨bJ,bK,bE⟩:=bind_some bE
          refine AM f Z call91 (Wk.E0 m bv bK) λbL bM bN w bO m bP a f=> ?_
          obtain⟨bQ,rfl,rfl,bR⟩:=bP
          refine Aa ?_
          rcases Ae bE with⟨bS,bE⟩|⟨bS,bE⟩
          ·refine Al f Z bS ?_
           refine Ap ?_
           obtain rfl:=sj bE
           obtain rfl:=sj am
           obtain rfl:=an _ rfl
           obtain rfl:=sj hd
           exact⟨[],trivial,f.d,_,[bQ],(gt ao (gt a2 (gt a9 (gt bu (gt bz (gt bC bO)))))),m,_,Z,bR⟩
          ·refine Aj f Z bS ?_
           refine Ao ?_
           obtain rfl:=sj bE
           exact⟨_,Z,_,Z,_,bQ,bO,f.k Z,m,bR⟩
         ·refine Aj f Z bI ?_
          refine Ao ?_
          obtain rfl:=sj bE
          exact⟨_,Z,_,Z,_,bj,gr,f.k Z,m,bv⟩
        ·rintro a w ⟨_,rfl,bF,rfl,bG,bH,bT,f,m,bU⟩
         refine Ah (Ah ?_)
         refine A1 15 AA (by kernel_rfl) m ?_
         refine Ag 0 15 Z f Z λa f=>q_p 1 15 Z f (λ_=>AE (f.e Z) (f.e Z) BV) λa f=>Ag 2 15 Z f Z λa f=> ?_
         have⟨bV,bW,am⟩:=bind_some am
         refine Bx (fuel':=0) (listed':= #[true,true,true,true,true,true,true,true,true,true,true,true,true,true,true]) (λa=>Fr a 134 [(0,v0),(1,(iv ae)),(2,(iv af)),(3,(iv aP)),(8,(.bool ah)),(9,(.bool ai)),(10,(iv (i64.wrap (af-ae)))),(11,(iv bg)),(73,(iv ae)),(74,(.bool (decide ((0:Int)<ae)))),(75,(.bool (decide ((0:Int)<ae)))),(87,(.bool bV))]) ?_ ?_
         ·intro a f
          refine AJ λbX w bY m=> ?_
          have bU:=od1 bY bU
          refine Aa ?_
          rcases Ae am with⟨bZ,am⟩|⟨bZ,am⟩
          ·refine Al f Z bZ ?_
           refine Af ?_
           refine Ab f Z λa f=>Ab f Z λa f=>Ab f Z λa f=>Ab f Z λa f=> ?_
           have⟨b0,b1,am⟩:=bind_some am
           refine AM f Z call93 (Wk.y0 m bU b1) λb2 b3 b4 w b5 m b6 a f=> ?_
           obtain⟨b7,rfl,rfl,b8⟩:=b6
           refine Ac f Z λa f=>Aw ?_
           refine Ab f Z λa f=>Ac f Z λa f=>Aa ?_
           refine Ay Z ?_
           obtain rfl:=sj am
           exact⟨_,Z,_,_,_,_,_,_,Z,_,b7,(gt ao (gt a2 (gt a9 (gt bu (gt bz (gt bC (gt bT (gt bY b5)))))))),f.k Z,m,b8⟩
          ·refine Aj f Z bZ ?_
           refine Ao ?_
           refine Af ?_
           refine Ab f Z λa f=>Ab f Z λa f=>Ab f Z λa f=>Ab f Z λa f=> ?_
           have⟨b9,ca,am⟩:=bind_some am
           refine AM f Z call94 (Wk.J0 m bU ca) λcb cc cd w ce m cf a f=> ?_
           obtain⟨cg,rfl,rfl,ch⟩:=cf
           refine Ab f Z λa f=>l_o f (A6 (f.e Z) Z) λa f=>l_o f (A6 (f.e Z) Z) λa f=>Ac f Z λa f=>Ac f Z λa f=>Aw ?_
           refine Ab f Z λa f=>Ac f Z λa f=>Aw ?_
           refine Ab f Z λa f=>Ab f Z λa f=>Ai f Z Z AC λa f=>Ab f Z λa f=>Ab f Z λa f=>Ai f Z Z AC λa f=>Ac f Z λa f=>Ac f Z λa f=>Aw ?_
           refine Ab f Z λa f=>Ai f Z Z (Cg Z) λa f=>Ac f Z λa f=>Aw ?_
           refine Ab f Z λa f=>Ab f Z λa f=>Ai f Z Z AT λa f=>Aa ?_
           rcases Ae am with⟨ci,am⟩|⟨ci,am⟩
           ·refine Al f Z ci ?_
            refine Af ?_
            refine Ab f Z λa f=>Ab f Z λa f=>Ai f Z Z Br λa f=>Ac f Z λa f=>Aw ?_
            refine Ab f Z λa f=>Ab f Z λa f=>Ab f Z λa f=>Ab f Z λa f=> ?_
            have⟨cj,ck,am⟩:=bind_some am
            refine AM f Z call82 (ih m ch ck) λcl cm cn w co m cp a f=> ?_
            obtain⟨cq,rfl,cr⟩:=cp
            refine Aa (Am ?_)
            refine Ab f Z λa f=>Ai f Z Z Ar λa f=>Ac f Z λa f=>Aa ?_
            obtain rfl:=sj am
            exact⟨_,Z,_,_,_,_,_,_,Z,_,cq,(gt ao (gt a2 (gt a9 (gt bu (gt bz (gt bC (gt bT (gt bY (gt ce co))))))))),f.k Z,m,cr⟩
           ·refine Aj f Z ci ?_
            refine Af ?_
            refine Ab f Z λa f=>Ab f Z λa f=>Ai f Z Z Br λa f=>Ac f Z λa f=>Aw ?_
            refine Ab f Z λa f=>Ab f Z λa f=>Ai f Z Z Ar λa f=>Ab f Z λa f=>Ab f Z λa f=> ?_
            have⟨cs,ct,am⟩:=bind_some am
            refine AM f Z call82 (ih m ch ct) λcu cv cw w cx m cy a f=> ?_
            obtain⟨cz,rfl,cA⟩:=cy
            refine Aa (Am ?_)
            refine Ab f Z λa f=>Ac f Z λa f=>Aa ?_
            obtain rfl:=sj am
            exact⟨_,Z,_,_,_,_,_,_,Z,_,cz,(gt ao (gt a2 (gt a9 (gt bu (gt bz (gt bC (gt bT (gt bY (gt ce cx))))))))),f.k Z,m,cA⟩
         ·intro cB
          rcases Ae bW with⟨cC,bW⟩|⟨cC,bW⟩
          ·refine Ag (hw:=wo f cC) 3 15 Z f Z λa f=> ?_
           refine Ag (hw:=wo f cC) 4 15 Z f Z λa f=>q_p (hw:=wo f cC) 5 15 Z f (λ_=>AE (f.e Z) (f.e Z) AC) λa f=> ?_
           have⟨cD,cE,bW⟩:=bind_some bW
           refine Ax (hw:=wo f cC) 6 15 0 m bU T39 cE Z f Z Z λcF a cG f=>AF (hw:=wo f cC) 7 15 0 bU Pl2 cG cE Z f Z λcH a cI f=> ?_
           subst cI
           refine Ag (hw:=wo f cC) 8 15 Z f Z λa f=>Ag (hw:=wo f cC) 9 15 Z f Z λa f=> ?_
           have⟨cJ,cK,bW⟩:=bind_some bW
           refine Ax (hw:=wo f cC) 10 15 0 m bU T39 cK Z f Z Z λcL a cM f=>AF (hw:=wo f cC) 11 15 0 bU Pl2 cM cK Z f Z λcN a cO f=> ?_
           subst cO
           have⟨cP,cQ,bW⟩:=bind_some bW
           refine Bb (i:=12) 15 Z (by kernel_rfl) Z f (AZ f Z Z Z cC) Z Z call92 (λ_ _ w cR m=>Wk.c m cQ) λa f=>q_p (hw:=wo f cC) 13 15 Z f (λ_=>Be (f.e Z)) λa f=>q_p 14 15 Z f (λ_=>AO (f.e Z) cC (f.e Z)) λa f=> ?_
           obtain rfl:=sj bW
           exact cB _ (f.k Z)
          ·refine An 3 15 Z f cC λa f=> ?_
           refine An 4 15 Z f cC λa f=>An 5 15 Z f cC λa f=>An 6 15 Z f cC λa f=>An 7 15 Z f cC λa f=>An 8 15 Z f cC λa f=>An 9 15 Z f cC λa f=>An 10 15 Z f cC λa f=>An 11 15 Z f cC λa f=>An 12 15 Z f cC λa f=>An 13 15 Z f cC λa f=>q_p 14 15 Z f (λ_=>AP (f.e Z) cC (f.e Z)) λa f=> ?_
           obtain rfl:=sj bW
           exact cB _ (f.k Z)
theorem Wk.f {v0:Value}{it0:Itm}{x0:LI}{x1 x2 x3:Int}(m:Mem W G w (it0::H))(o0:Ow R0 2 G it0 v0 x0){y:(LI)}(hd:D.f x0 x1 x2 x3=some y):
  Calls prog 82 #[v0,(iv x1),(iv x2),(iv x3)] w (Res W G H (λG' Ho _=>∃i0:Itm,Ho=[i0]∧Ow R0 2 G' i0 v0 y)):=by
 exact Wk.F CA m o0 hd
theorem Wk.p0 {v0:Value}{it0:Itm}{x0:LI}(m:Mem W G w (it0::H))(o0:Ow R0 2 G it0 v0 x0){y:(LI)}(hd:D.p0 x0=some y):
  Calls prog 71 #[v0] w (Res W G H (λG' Ho _=>∃i0:Itm,Ho=[i0]∧Ow R0 2 G' i0 v0 y)):=by
 refine As (args:=[v0]) (N:=11) [] func71 Z Z (lb Z) Z λa f=> ?_
 unfold D.p0 at hd
 refine Af ?_
 refine Ab f Z λa f=>BT 0 m o0 Z underlying39 f Z Z λa f=>Ac f Z λa f=>Aa (Am ?_)
 refine Ab f Z λa f=>Ab f Z λa f=>Ab f Z λa f=>l_o f (Cb (f.e Z) ⟨_,underlying3⟩ underlying68) λa f=> ?_
 have⟨aa,ab,hd⟩:=bind_some hd
 refine AM f Z call83 (Wk.C m ab) λac ad ae w af m ag a f=> ?_
 obtain⟨rfl,rfl⟩:=ag
 have o0:=od1 af o0
 have⟨ah,ai,hd⟩:=bind_some hd
 refine AM f Z call82 (Wk.f m o0 ai) λaj ak al w am m an a f=> ?_
 obtain⟨ao,rfl,ap⟩:=an
 refine Aa ?_
 obtain rfl:=sj hd
 exact⟨[],trivial,f.d,_,[ao],(gt af am),m,_,Z,ap⟩
theorem Wk.O0 {v0:Value}{b0:Nat}{x0:LI}(m:Mem W G w (ib b0 39 [v0]::H))(h0:R1 G v0 x0){y:(LI)}(hd:D.O0 x0=some y):
  Calls prog 56 #[(.func (.func 72) #[] #[(pb b0)])] w (Res W G H (λG' Ho v=>∃r0:Value,∃i0:Itm,Ho=[i0]∧r0=v∧Ow R0 2 G' i0 r0 y)):=by
 refine As (args:=[(.func (.func 72) #[] #[(pb b0)])]) (N:=9) [.tmp 2] func56 Z Z (lb Z) Z λa f=> ?_
 unfold D.O0 at hd
 refine Af ?_
 refine Ac f Z λa f=>Aw ?_
 refine Ab f Z λa f=> ?_
 have⟨aa,ab,hd⟩:=bind_some hd
 refine AM f Z call70 (Wk.k1 m h0 ab) λac ad ae w af m ag a f=> ?_
 obtain⟨ah,ai,rfl,rfl,aj⟩:=ag
 refine Ac f Z λa f=>Aw ?_
 refine Ab f Z λa f=> ?_
 have⟨ak,al,hd⟩:=bind_some hd
 refine AM f Z call71 (Wk.p0 m aj al) λam an ao w ap m aq a f=> ?_
 obtain⟨ar,rfl,au⟩:=aq
 refine Aw ?_
 refine Ab f Z λa f=>Ac f Z λa f=>Aa ?_
 refine Ap ?_
 obtain rfl:=sj hd
 exact⟨[ah],f.g Z,f.d,_,[ar],(gt af ap),m,_,_,Z,Z,au⟩
theorem Wk.Q0 {v0 v1:Value}{x0 x1:LI}(m:Mem W G w (H))(h0:R1 G v0 x0)(h1:R1 G v1 x1){y:Bool}(hd:D.Q0 x0 x1=some y):
  Calls prog 55 #[v0,v1] w (Res W G H (λ_ Ho v=>Ho=[]∧v=(.bool y))):=by
 refine As (args:=[v0,v1]) (N:=26) [.tmp 4] func55 Z Z (lb Z) Z λa f=> ?_
 unfold D.Q0 at hd
 refine Af ?_
 refine Ac f Z λa f=>Aa (Ah (Af ?_))
 refine Ab f Z λa f=>A2 underlying39 f Z Z h0 λa f=>Ab f Z λa f=>A2 underlying39 f Z Z h1 λa f=>Ai f Z Z Ck λa f=>Aa ?_
 rcases Ae hd with⟨aa,hd⟩|⟨aa,hd⟩
 ·refine Al f Z aa ?_
  refine Af ?_
  refine Ac f Z λa f=>Aa ?_
  refine Ap ?_
  obtain rfl:=sj hd
  exact⟨[(.bool false)],f.g Z,f.d,_,[],gr,m,Z,Z⟩
 ·refine Aj f Z aa ?_
  refine Ao ?_
  refine Ah (Af ?_)
  refine Ab f Z λa f=>A2 underlying39 f Z Z h0 λa f=>Ab f Z λa f=>Aa ?_
  have⟨ab,ac,hd⟩:=bind_some hd
  refine AD (λa w=>∃q_36':Unit,ab= .inl q_36'∧∃(ad:GH),GLe G ad∧Fr a 26 []∧Mem W ad w (H)) ?_ ?_
  ·refine Ak ?_
   refine AB (λae a w=>∃af:Int,af=ae∧∃(ag:GH),GLe G ag∧Fr a 26 [(0,v0),(1,v1),(12,(iv (x0.length:Int))),(13,(iv af))]∧Mem W ag w (H)) ac ⟨_,Z,_,gr,f.k Z,m⟩ ?_
   clear ac f m
   rintro ae ah ai aj a w ⟨af,rfl,ag,ak,f,m⟩
   have h0:=rd1 ak h0
   have h1:=rd1 ak h1
   refine Af ?_
   refine Ai f Z Z AT λa f=>Aa (Ah ?_)
   rcases Ae ai with⟨al,ai⟩|⟨al,ai⟩
   ·refine Al f Z al ?_
    refine Ao ?_
    refine Ah (Ak (Af ?_))
    refine Ab f Z λa f=>Ac f Z λa f=>Aa (Ah ?_)
    refine A1 9 AA (by kernel_rfl) m ?_
    refine Ag 0 9 Z f Z λa f=>Ag 1 9 Z f Z λa f=> ?_
    have⟨am,an,ai⟩:=bind_some ai
    refine BR 2 9 T39 h0 an Z f Z Z λao ap a aq ar f=> ?_
    subst ar
    refine BU 3 9 Pl2 aq Z f Z λa f=>Ag 4 9 Z f Z λa f=>Ag 5 9 Z f Z λa f=> ?_
    have⟨au,av,ai⟩:=bind_some ai
    refine BR 6 9 T39 h1 av Z f Z Z λaw ax a ay az f=> ?_
    subst az
    refine BU 7 9 Pl2 ay Z f Z λa f=>q_p 8 9 Z f (λ_=>AE (f.e Z) (f.e Z) Ck) λa f=>AJ λaA w aB m=>Aa ?_
    rcases Ae ai with⟨aC,ai⟩|⟨aC,ai⟩
    ·refine Al f Z aC ?_
     refine Af ?_
     refine Ac f Z λa f=>Aa ?_
     refine Ap ?_
     obtain rfl:=sj ai
     obtain rfl:=aj _ rfl
     obtain rfl:=sj hd
     exact⟨[(.bool false)],f.g Z,f.d,_,[],(gt ak aB),m,Z,Z⟩
    ·refine Aj f Z aC ?_
     refine Ao ?_
     refine Am ?_
     refine Ai f Z Z Ar λa f=>Ab f Z λa f=>Aa ?_
     obtain rfl:=sj ai
     exact⟨_,Z,_,Z,_,(gt ak aB),f.k Z,m⟩
   ·refine Aj f Z al ?_
    refine Ay Z ?_
    obtain rfl:=sj ai
    obtain rfl:=aj _ rfl
    exact⟨_,Z,_,ak,f.weak trivial,m⟩
  ·rintro a w ⟨_,rfl,ad,aD,f,m⟩
   refine Af ?_
   refine Ac f Z λa f=>Aa ?_
   refine Ap ?_
   obtain rfl:=sj hd
   exact⟨[(.bool true)],f.g Z,f.d,_,[],aD,m,Z,Z⟩
theorem Wk.A {v0:Value}{b0:Nat}{x0:LI}(m:Mem W G w (ib b0 63 [v0]::H))(h0:R1 G v0 x0){y:(LI)}(hd:D.A x0=some y):
  Calls prog 75 #[(.func (.func 77) #[] #[(pb b0)])] w (Res W G H (λG' Ho v=>∃r0:Value,∃i0:Itm,Ho=[i0]∧r0=v∧Ow R0 3 G' i0 r0 y)):=by
 refine As (args:=[(.func (.func 77) #[] #[(pb b0)])]) (N:=5) [.tmp 2] func75 Z Z (lb Z) Z λa f=> ?_
 unfold D.A at hd
 refine Af ?_
 refine Ac f Z λa f=>Aw ?_
 refine Ab f Z λa f=> ?_
 have⟨aa,ab,hd⟩:=bind_some hd
 refine AM f Z call84 (Wk.g1 m h0 ab) λac ad ae w af m ag a f=> ?_
 obtain⟨ah,ai,rfl,rfl,aj⟩:=ag
 refine Ac f Z λa f=>Aa ?_
 refine Ap ?_
 obtain rfl:=sj hd
 exact⟨[ah],f.g Z,f.d,_,[ai],af,m,_,_,Z,Z,aj⟩
theorem Wk.l {x0:Int}(m:Mem W G w (H)){y:Bool}(hd:D.l x0=some y):
  Calls prog 115 #[(iv x0)] w (Res W G H (λ_ Ho v=>Ho=[]∧v=(.bool y))):=by
 refine As (args:=[(iv x0)]) (N:=6) [.tmp 2] func115 Z Z (lb Z) Z λa f=> ?_
 unfold D.l at hd
 refine Af ?_
 refine Ac f Z λa f=>Aw ?_
 refine Ab f Z λa f=>Ab f Z λa f=>Ai f Z Z Ck λa f=>Ac f Z λa f=>Aa ?_
 refine Ap ?_
 obtain rfl:=sj hd
 exact⟨[(.bool (x0 !=x0))],f.g Z,f.d,_,[],gr,m,Z,Z⟩
theorem Wk.a {x0 x1:Int}(m:Mem W G w (H)){y:Bool}(hd:D.a x0 x1=some y):
  Calls prog 103 #[(iv x0),(iv x1)] w (Res W G H (λ_ Ho v=>Ho=[]∧v=(.bool y))):=by
 refine As (args:=[(iv x0),(iv x1)]) (N:=17) [.tmp 4] func103 Z Z (lb Z) Z λa f=> ?_
 unfold D.a at hd
 refine Af ?_
 refine Ac f Z λa f=>Aw ?_
 refine Ab f Z λa f=> ?_
 have⟨aa,ab,hd⟩:=bind_some hd
 refine Ba f Z call115 (Wk.l m ab) λac w ad m a f=>Ab f Z λa f=> ?_
 have⟨ae,af,hd⟩:=bind_some hd
 refine BF 4 (λa w=>∃ag,GLe ac ag∧Mem W ag w (H)∧Fr a 17 [(0,(iv x0)),(1,(iv x1)),(5,(iv x0)),(6,(.bool aa)),(7,(.bool aa)),(11,(.bool ae))]) ?_ ?_
 ·rcases Ae af with⟨ah,af⟩|⟨ah,af⟩
  ·refine AG f ah ?_
   refine Ab f Z λa f=>AG f ah ?_
   have⟨ai,aj,af⟩:=bind_some af
   refine Ba f Z call115 (Wk.l m aj) λak w al m a f=>AG f ah ?_
   refine l_o f (Be (f.e Z)) λa f=>l_o f (AO (f.e Z) ah (f.e Z)) λa f=> ?_
   obtain rfl:=sj af
   exact⟨_,al,m,f.k Z⟩
  ·refine AL f ah λa f=> ?_
   refine AL f ah λa f=>AL f ah λa f=>l_o f (AP (f.e Z) ah (f.e Z)) λa f=> ?_
   obtain rfl:=sj af
   exact⟨_,gr,m,f.k Z⟩
 ·rintro a w ⟨ag,am,m,f⟩
  refine Ab f Z λa f=> ?_
  refine BF 4 (λa w=>∃an,GLe ag an∧Mem W an w (H)∧Fr a 17 [(0,(iv x0)),(1,(iv x1)),(5,(iv x0)),(6,(.bool aa)),(7,(.bool aa)),(11,(.bool ae)),(12,(.bool ae)),(16,(.bool (ae||(decide (x0<x1)))))]) ?_ ?_
  ·rcases Bool.eq_false_or_eq_true ae with ao|ao
   ·refine AL f ao λa f=> ?_
    refine AL f ao λa f=>AL f ao λa f=>l_o f (AO (f.e Z) ao (f.e Z)) λa f=> ?_
    exact⟨_,gr,m,f.weak ⟨Z,Z,Z,Z,Z,Z,Z,by rw[ao];rfl,trivial⟩⟩
   ·refine AG f ao ?_
    refine Ab f Z λa f=>AG f ao ?_
    refine Ab f Z λa f=>AG f ao ?_
    refine Ai f Z Z AT λa f=>l_o f (AP (f.e Z) ao (f.e Z)) λa f=> ?_
    exact⟨_,gr,m,f.weak ⟨Z,Z,Z,Z,Z,Z,Z,by rw[ao];rfl,trivial⟩⟩
  ·rintro a w ⟨an,ap,m,f⟩
   refine Ac f Z λa f=>Aa ?_
   refine Ap ?_
   obtain rfl:=sj hd
   exact⟨[(.bool (ae||(decide (x0<x1))))],f.g Z,f.d,_,[],(gt ad (gt am ap)),m,Z,Z⟩
theorem Wk.q {v0:Value}{it0:Itm}{x0:LI}{x1 x2:Int}(m:Mem W G w (it0::H))(o0:Ow R0 3 G it0 v0 x0){y:(LI)}(hd:D.q x0 x1 x2=some y):
  Calls prog 97 #[v0,(iv x1),(iv x2)] w (Res W G H (λG' Ho _=>∃i0:Itm,Ho=[i0]∧Ow R0 3 G' i0 v0 y)):=by
 refine As (args:=[v0,(iv x1),(iv x2)]) (N:=49) [] func97 Z Z (lb Z) Z λa f=> ?_
 unfold D.q at hd
 refine Af ?_
 refine Ab f Z λa f=>Ai f Z Z Ar λa f=>Ac f Z λa f=>Aa ?_
 have⟨aa,ab,hd⟩:=bind_some hd
 refine AD (λa w=>∃ac:LI,ac=aa∧∃(ad:GH) (ae:Itm),GLe G ad∧Fr a 49 []∧Mem W ad w (ae::H)∧Ow R0 3 ad ae v0 ac) ?_ ?_
 ·refine Ak ?_
  refine AB (λaf a w=>∃ag:LI,∃ah:Int,(ag,ah)=af∧∃(ai:GH) (aj:Itm),GLe G ai∧Fr a 49 [(0,v0),(1,(iv x1)),(2,(iv x2)),(6,(iv ah))]∧Mem W ai w (aj::H)∧Ow R0 3 ai aj v0 ag) ab ⟨_,_,Z,_,it0,gr,f.k Z,m,o0⟩ ?_
  clear ab f m
  rintro af ak al am a w ⟨ag,ah,rfl,ai,aj,an,f,m,ao⟩
  refine Ah (Af ?_)
  refine Ab f Z λa f=>Ab f Z λa f=>Ai f Z Z AT λa f=>Aa ?_
  rcases Ae al with⟨ap,al⟩|⟨ap,al⟩
  ·refine Al f Z ap ?_
   refine Ao ?_
   refine Ah (Ak (Af ?_))
   refine Ab f Z λa f=>Ac f Z λa f=>Aa ?_
   have⟨aq,ar,al⟩:=bind_some al
   refine AD (λa w=>∃au:LI,au=aq∧∃(av:GH) (aw:Itm),GLe ai av∧Fr a 49 [(0,v0),(1,(iv x1)),(2,(iv x2)),(6,(iv ah))]∧Mem W av w (aw::H)∧Ow R0 3 av aw v0 au) ?_ ?_
   ·refine Ak ?_
    refine AB (λax a w=>∃ay:LI,∃az:Int,(ay,az)=ax∧∃(aA:GH) (aB:Itm),GLe ai aA∧Fr a 49 [(0,v0),(1,(iv x1)),(2,(iv x2)),(6,(iv ah)),(7,(iv az))]∧Mem W aA w (aB::H)∧Ow R0 3 aA aB v0 ay) ar ⟨_,_,Z,_,aj,gr,f.k Z,m,ao⟩ ?_
    clear ar f m
    rintro ax aC aD aE a w ⟨ay,az,rfl,aA,aB,aF,f,m,aG⟩
    refine Ah (Ah ?_)
    refine A1 15 AA (by kernel_rfl) m ?_
    refine Ag 0 15 Z f Z λa f=>Ag 1 15 Z f Z λa f=>q_p 2 15 Z f (λ_=>AE (f.e Z) (f.e Z) BV) λa f=>Ag 3 15 Z f Z λa f=> ?_
    have⟨aH,aI,aD⟩:=bind_some aD
    refine Bx (fuel':=0) (listed':= #[true,true,true,true,true,true,true,true,true,true,true,true,true,true,true]) (λa=>Fr a 49 [(0,v0),(1,(iv x1)),(2,(iv x2)),(6,(iv ah)),(7,(iv az)),(16,(iv az)),(17,(iv x1)),(18,(.bool (decide (x1<az)))),(19,(.bool (decide (x1<az)))),(30,(.bool aH))]) ?_ ?_
    ·intro a f
     refine AJ λaJ w aK m=> ?_
     have aG:=od1 aK aG
     refine Aa ?_
     rcases Ae aD with⟨aL,aD⟩|⟨aL,aD⟩
     ·refine Al f Z aL ?_
      refine Ao ?_
      refine Ah (Ak ?_)
      refine Bf AA m ?_
      refine p_p 2 Z f (λ_=>AH (f.e Z)) λa f=>p_p 3 Z f (λ_=>AH (f.e Z)) λa f=>p_p 4 Z f (λ_=>AE (f.e Z) (f.e Z) AC) λa f=>Bg 28015 12 (by kernel_rfl) Z ?_
      refine Ag 0 28015 Z f Z λa f=>Ag 1 28015 Z f Z λa f=>Ag 5 28015 Z f Z λa f=>Ag 6 28015 Z f Z λa f=>q_p 7 28015 Z f (λ_=>AE (f.e Z) (f.e Z) AC) λa f=> ?_
      have⟨aM,aN,aD⟩:=bind_some aD
      refine Ax 8 28015 0 m aG T63 aN Z f Z Z λaO a aP f=>AF 9 28015 0 aG Pl3 aP aN Z f Z λaQ a aR f=> ?_
      subst aR
      refine Ag 10 28015 Z f Z λa f=>Ag 11 28015 Z f Z λa f=> ?_
      have⟨aS,aT,aD⟩:=bind_some aD
      refine Ax 12 28015 0 m aG T63 aT Z f Z Z λaU a aV f=>AF 13 28015 0 aG Pl3 aV aT Z f Z λaW a aX f=> ?_
      subst aX
      have⟨aY,aZ,aD⟩:=bind_some aD
      refine Ax 14 28015 0 m aG T63 aZ Z f Z Z λa0 a a1 f=>AJ λa2 w a3 m=> ?_
      have aG:=od1 a3 aG
      refine Au 0 m aG Z sizeOf3 f Z Z a1 aZ Z Z Z λa4 w m a5=> ?_
      have⟨a6,a7,aD⟩:=bind_some aD
      refine AV 0 m a5 Z T63 f Z Z Z a7 λa8 a a9 f=>Au 0 m a5 Z sizeOf3 f Z Z a9 a7 Z Z Z λba w m bb=>Aa (Am ?_)
      refine Ab f Z λa f=>Ai f Z Z AC λa f=>Ac f Z λa f=>Aa ?_
      obtain rfl:=sj aD
      exact⟨_,Z,_,_,Z,_,ba,(gt aF (gt aK a3)),f.k Z,m,bb⟩
     ·refine Aj f Z aL ?_
      refine Ay Z ?_
      obtain rfl:=sj aD
      obtain rfl:=aE _ rfl
      exact⟨_,Z,_,aB,(gt aF aK),f.k Z,m,aG⟩
    ·intro bc
     rcases Ae aI with⟨bd,aI⟩|⟨bd,aI⟩
     ·refine Ag (hw:=wo f bd) 4 15 Z f Z λa f=> ?_
      refine Ag (hw:=wo f bd) 5 15 Z f Z λa f=> ?_
      have⟨be,bf,aI⟩:=bind_some aI
      refine Ax (hw:=wo f bd) 6 15 0 m aG T63 bf Z f Z Z λbg a bh f=>AF (hw:=wo f bd) 7 15 0 aG Pl3 bh bf Z f Z λbi a bj f=> ?_
      subst bj
      refine Ag (hw:=wo f bd) 8 15 Z f Z λa f=>Ag (hw:=wo f bd) 9 15 Z f Z λa f=>q_p (hw:=wo f bd) 10 15 Z f (λ_=>AE (f.e Z) (f.e Z) AC) λa f=> ?_
      have⟨bk,bl,aI⟩:=bind_some aI
      refine Ax (hw:=wo f bd) 11 15 0 m aG T63 bl Z f Z Z λbm a bn f=>AF (hw:=wo f bd) 12 15 0 aG Pl3 bn bl Z f Z λbo a bp f=> ?_
      subst bp
      have⟨bq,br,aI⟩:=bind_some aI
      refine Bb (i:=13) 15 Z (by kernel_rfl) Z f (AZ f Z Z Z bd) Z Z call103 (λ_ _ w bs m=>Wk.a m br) λa f=>q_p 14 15 Z f (λ_=>AO (f.e Z) bd (f.e Z)) λa f=> ?_
      obtain rfl:=sj aI
      exact bc _ (f.k Z)
     ·refine An 4 15 Z f bd λa f=> ?_
      refine An 5 15 Z f bd λa f=>An 6 15 Z f bd λa f=>An 7 15 Z f bd λa f=>An 8 15 Z f bd λa f=>An 9 15 Z f bd λa f=>An 10 15 Z f bd λa f=>An 11 15 Z f bd λa f=>An 12 15 Z f bd λa f=>An 13 15 Z f bd λa f=>q_p 14 15 Z f (λ_=>AP (f.e Z) bd (f.e Z)) λa f=> ?_
      obtain rfl:=sj aI
      exact bc _ (f.k Z)
   ·rintro a w ⟨au,rfl,av,aw,bt,f,m,bu⟩
    refine Am ?_
    refine Ab f Z λa f=>Ai f Z Z Ar λa f=>Ac f Z λa f=>Aa ?_
    obtain rfl:=sj al
    exact⟨_,Z,_,_,Z,_,aw,(gt an bt),f.k Z,m,bu⟩
  ·refine Aj f Z ap ?_
   refine Ay Z ?_
   obtain rfl:=sj al
   obtain rfl:=am _ rfl
   exact⟨_,Z,_,aj,an,f.weak trivial,m,ao⟩
 ·rintro a w ⟨ac,rfl,ad,ae,bv,f,m,bw⟩
  obtain rfl:=sj hd
  exact⟨[],trivial,f.d,_,[ae],bv,m,_,Z,bw⟩
theorem Wk.i {v0:Value}{it0:Itm}{x0:LI}{x1 x2 x3:Int}(m:Mem W G w (it0::H))(o0:Ow R0 3 G it0 v0 x0){y:(LI)}(hd:D.i x0 x1 x2 x3=some y):
  Calls prog 112 #[v0,(iv x1),(iv x2),(iv x3)] w (Res W G H (λG' Ho _=>∃i0:Itm,Ho=[i0]∧Ow R0 3 G' i0 v0 y)):=by
 refine As (args:=[v0,(iv x1),(iv x2),(iv x3)]) (N:=76) [] func112 Z Z (lb Z) Z λa f=> ?_
 unfold D.i at hd
 refine Af ?_
 refine Ab f Z λa f=>Ac f Z λa f=>Aa ?_
 have⟨aa,ab,hd⟩:=bind_some hd
 refine AD (λa w=>∃q_182':LI,aa= .inl q_182'∧∃ac:LI,ac=q_182'∧∃(ad:GH) (ae:Itm),GLe G ad∧Fr a 76 []∧Mem W ad w (ae::H)∧Ow R0 3 ad ae v0 ac) ?_ ?_
 ·refine Ak ?_
  refine AB (λaf a w=>∃ag:LI,∃ah:Int,(ag,ah)=af∧∃(ai:GH) (aj:Itm),GLe G ai∧Fr a 76 [(0,v0),(2,(iv x2)),(3,(iv x3)),(8,(iv ah))]∧Mem W ai w (aj::H)∧Ow R0 3 ai aj v0 ag) ab ⟨_,_,Z,_,it0,gr,f.k Z,m,o0⟩ ?_
  clear ab f m
  rintro af ak al am a w ⟨ag,ah,rfl,ai,aj,an,f,m,ao⟩
  refine Ak (Af ?_)
  refine Ab f Z λa f=>Ai f Z Z B6 λa f=>Ai f Z Z Ar λa f=>Ac f Z λa f=>Aa (Ah (Af ?_))
  refine Ab f Z λa f=>Ab f Z λa f=>Ai f Z Z Br λa f=>Aa ?_
  rcases Ae al with⟨ap,al⟩|⟨ap,al⟩
  ·refine Al f Z ap ?_
   refine Ay Z ?_
   obtain rfl:=sj al
   obtain rfl:=am _ rfl
   exact⟨_,Z,_,Z,_,aj,an,f.weak trivial,m,ao⟩
  ·refine Aj f Z ap ?_
   refine Ao ?_
   refine Ah (Ah ?_)
   refine A1 20 AA (by kernel_rfl) m ?_
   refine Ag 0 20 Z f Z λa f=>q_p 1 20 Z f (λ_=>AE (f.e Z) (f.e Z) Ar) λa f=>Ag 2 20 Z f Z λa f=>q_p 3 20 Z f (λ_=>AE (f.e Z) (f.e Z) AT) λa f=>Ag 4 20 Z f Z λa f=> ?_
   have⟨aq,ar,al⟩:=bind_some al
   refine Bx (fuel':=0) (listed':= #[true,true,true,true,true,true,true,true,true,true,true,true,true,true,true,true,true,true,true,true]) (λa=>Fr a 76 [(0,v0),(2,(iv x2)),(3,(iv x3)),(8,(iv ah)),(9,(iv (i64.wrap ((i64.wrap (2*ah))+1)))),(16,(.bool (decide (x2≤(i64.wrap ((i64.wrap (2*ah))+1)))))),(17,(iv (i64.wrap ((i64.wrap (2*ah))+1)))),(18,(iv (i64.wrap ((i64.wrap ((i64.wrap (2*ah))+1))+1)))),(19,(iv x2)),(20,(.bool (decide ((i64.wrap ((i64.wrap ((i64.wrap (2*ah))+1))+1))<x2)))),(21,(.bool (decide ((i64.wrap ((i64.wrap ((i64.wrap (2*ah))+1))+1))<x2)))),(36,(.bool aq))]) ?_ ?_
   ·intro a f
    refine AJ λau w av m=> ?_
    have ao:=od1 av ao
    refine Aa ?_
    have⟨aw,ax,al⟩:=bind_some al
    refine AD (λa w=>∃ay:Int,ay=aw∧∃(az:GH),GLe au az∧Fr a 76 [(0,v0),(2,(iv x2)),(3,(iv x3)),(8,(iv ah)),(9,(iv ay))]∧Mem W az w (aj::H)) ?_ ?_
    ·rcases Ae ax with⟨aA,ax⟩|⟨aA,ax⟩
     ·refine Al f Z aA ?_
      refine Am ?_
      refine Ab f Z λa f=>Ai f Z Z Ar λa f=>Ac f Z λa f=>Aa ?_
      obtain rfl:=sj ax
      exact⟨_,Z,_,gr,f.k Z,m⟩
     ·refine Aj f Z aA ?_
      refine Ao ?_
      obtain rfl:=sj ax
      exact⟨_,Z,_,gr,f.k Z,m⟩
    ·rintro a w ⟨ay,rfl,az,aB,f,m⟩
     have ao:=od1 aB ao
     refine Ah (Ah ?_)
     refine A1 14 AA (by kernel_rfl) m ?_
     refine Ag 0 14 Z f Z λa f=>Ag 1 14 Z f Z λa f=>Ag 2 14 Z f Z λa f=>q_p 3 14 Z f (λ_=>AE (f.e Z) (f.e Z) Ar) λa f=> ?_
     have⟨aC,aD,al⟩:=bind_some al
     refine Ax 4 14 0 m ao T63 aD Z f Z Z λaE a aF f=>AF 5 14 0 ao Pl3 aF aD Z f Z λaG a aH f=> ?_
     subst aH
     refine Ag 6 14 Z f Z λa f=>Ag 7 14 Z f Z λa f=>Ag 8 14 Z f Z λa f=>q_p 9 14 Z f (λ_=>AE (f.e Z) (f.e Z) Ar) λa f=> ?_
     have⟨aI,aJ,al⟩:=bind_some al
     refine Ax 10 14 0 m ao T63 aJ Z f Z Z λaK a aL f=>AF 11 14 0 ao Pl3 aL aJ Z f Z λaM a aN f=> ?_
     subst aN
     have⟨aO,aP,al⟩:=bind_some al
     refine Bb (i:=12) 14 Z (by kernel_rfl) Z f Z Z Z call103 (λ_ _ w aQ m=>Wk.a m aP) λa f=>q_p 13 14 Z f (λ_=>Be (f.e Z)) λa f=>AJ λaR w aS m=> ?_
     have ao:=od1 aS ao
     refine Aa ?_
     rcases Ae al with⟨aT,al⟩|⟨aT,al⟩
     ·refine Al f Z aT ?_
      refine Ap ?_
      obtain rfl:=sj al
      obtain rfl:=am _ rfl
      obtain rfl:=sj hd
      exact⟨[],trivial,f.d,_,[aj],(gt an (gt av (gt aB aS))),m,_,Z,ao⟩
     ·refine Aj f Z aT ?_
      refine Ao ?_
      refine Ah ?_
      refine Bf AA m ?_
      refine p_p 4 Z f (λ_=>AH (f.e Z)) λa f=>p_p 5 Z f (λ_=>AH (f.e Z)) λa f=>p_p 6 Z f (λ_=>AH (f.e Z)) λa f=>p_p 7 Z f (λ_=>AE (f.e Z) (f.e Z) Ar) λa f=>Bg 240021 17 (by kernel_rfl) Z ?_
      refine Ag 0 240021 Z f Z λa f=>Ag 1 240021 Z f Z λa f=>Ag 2 240021 Z f Z λa f=>q_p 3 240021 Z f (λ_=>AE (f.e Z) (f.e Z) Ar) λa f=>Ag 8 240021 Z f Z λa f=>Ag 9 240021 Z f Z λa f=>Ag 10 240021 Z f Z λa f=>q_p 11 240021 Z f (λ_=>AE (f.e Z) (f.e Z) Ar) λa f=> ?_
      have⟨aU,aV,al⟩:=bind_some al
      refine Ax 12 240021 0 m ao T63 aV Z f Z Z λaW a aX f=>AF 13 240021 0 ao Pl3 aX aV Z f Z λaY a aZ f=> ?_
      subst aZ
      refine Ag 14 240021 Z f Z λa f=>Ag 15 240021 Z f Z λa f=>Ag 16 240021 Z f Z λa f=>q_p 17 240021 Z f (λ_=>AE (f.e Z) (f.e Z) Ar) λa f=> ?_
      have⟨a0,a1,al⟩:=bind_some al
      refine Ax 18 240021 0 m ao T63 a1 Z f Z Z λa2 a a3 f=>AF 19 240021 0 ao Pl3 a3 a1 Z f Z λa4 a a5 f=> ?_
      subst a5
      have⟨a6,a7,al⟩:=bind_some al
      refine Ax 20 240021 0 m ao T63 a7 Z f Z Z λa8 a a9 f=>AJ λba w bb m=> ?_
      have ao:=od1 bb ao
      refine Au 0 m ao Z sizeOf3 f Z Z a9 a7 Z Z Z λbc w m bd=> ?_
      have⟨be,bf,al⟩:=bind_some al
      refine AV 0 m bd Z T63 f Z Z Z bf λbg a bh f=>Au 0 m bd Z sizeOf3 f Z Z bh bf Z Z Z λbi w m bj=>Aa (Am ?_)
      refine Ab f Z λa f=>Ac f Z λa f=>Aa ?_
      obtain rfl:=sj al
      exact⟨_,Z,_,_,Z,_,bi,(gt an (gt av (gt aB (gt aS bb)))),f.k Z,m,bj⟩
   ·intro bk
    rcases Ae ar with⟨bl,ar⟩|⟨bl,ar⟩
    ·refine Ag (hw:=wo f bl) 5 20 Z f Z λa f=> ?_
     refine Ag (hw:=wo f bl) 6 20 Z f Z λa f=>Ag (hw:=wo f bl) 7 20 Z f Z λa f=>q_p (hw:=wo f bl) 8 20 Z f (λ_=>AE (f.e Z) (f.e Z) Ar) λa f=> ?_
     have⟨bm,bn,ar⟩:=bind_some ar
     refine Ax (hw:=wo f bl) 9 20 0 m ao T63 bn Z f Z Z λbo a bp f=>AF (hw:=wo f bl) 10 20 0 ao Pl3 bp bn Z f Z λbq a br f=> ?_
     subst br
     refine Ag (hw:=wo f bl) 11 20 Z f Z λa f=>Ag (hw:=wo f bl) 12 20 Z f Z λa f=>Ag (hw:=wo f bl) 13 20 Z f Z λa f=>q_p (hw:=wo f bl) 14 20 Z f (λ_=>AE (f.e Z) (f.e Z) Ar) λa f=>q_p (hw:=wo f bl) 15 20 Z f (λ_=>AE (f.e Z) (f.e Z) Ar) λa f=> ?_
     have⟨bs,bt,ar⟩:=bind_some ar
     refine Ax (hw:=wo f bl) 16 20 0 m ao T63 bt Z f Z Z λbu a bv f=>AF (hw:=wo f bl) 17 20 0 ao Pl3 bv bt Z f Z λbw a bx f=> ?_
     subst bx
     have⟨bz,bA,ar⟩:=bind_some ar
     refine Bb (i:=18) 20 Z (by kernel_rfl) Z f (AZ f Z Z Z bl) Z Z call103 (λ_ _ w bB m=>Wk.a m bA) λa f=>q_p 19 20 Z f (λ_=>AO (f.e Z) bl (f.e Z)) λa f=> ?_
     obtain rfl:=sj ar
     exact bk _ (f.k Z)
    ·refine An 5 20 Z f bl λa f=> ?_
     refine An 6 20 Z f bl λa f=>An 7 20 Z f bl λa f=>An 8 20 Z f bl λa f=>An 9 20 Z f bl λa f=>An 10 20 Z f bl λa f=>An 11 20 Z f bl λa f=>An 12 20 Z f bl λa f=>An 13 20 Z f bl λa f=>An 14 20 Z f bl λa f=>An 15 20 Z f bl λa f=>An 16 20 Z f bl λa f=>An 17 20 Z f bl λa f=>An 18 20 Z f bl λa f=>q_p 19 20 Z f (λ_=>AP (f.e Z) bl (f.e Z)) λa f=> ?_
     obtain rfl:=sj ar
     exact bk _ (f.k Z)
 ·rintro a w ⟨_,rfl,ac,rfl,ad,ae,bC,f,m,bD⟩
  obtain rfl:=sj hd
  exact⟨[],trivial,f.d,_,[ae],bC,m,_,Z,bD⟩
theorem Wk.p {v0:Value}{it0:Itm}{x0:LI}{x1 x2:Int}(m:Mem W G w (it0::H))(o0:Ow R0 3 G it0 v0 x0){y:(LI)}(hd:D.p x0 x1 x2=some y):
  Calls prog 98 #[v0,(iv x1),(iv x2)] w (Res W G H (λG' Ho _=>∃i0:Itm,Ho=[i0]∧Ow R0 3 G' i0 v0 y)):=by
 refine As (args:=[v0,(iv x1),(iv x2)]) (N:=56) [] func98 Z Z (lb Z) Z λa f=> ?_
 unfold D.p at hd
 refine Af ?_
 refine Ab f Z λa f=>Ac f Z λa f=>Aw ?_
 refine Ac f Z λa f=>Aw ?_
 refine Ab f Z λa f=>Ab f Z λa f=>Ai f Z Z AC λa f=>Ac f Z λa f=>Aa (Ah (Af ?_))
 refine Ab f Z λa f=>Ai f Z Z AC λa f=>Ai f Z Z (Cg Z) λa f=>Ac f Z λa f=>Aa ?_
 have⟨aa,ab,hd⟩:=bind_some hd
 refine AD (λa w=>∃ac:LI,ac=aa∧∃(ad:GH) (ae:Itm),GLe G ad∧Fr a 56 [(0,v0),(6,(iv x1)),(7,(iv 0)),(8,(iv (i64.wrap (x2-x1))))]∧Mem W ad w (ae::H)∧Ow R0 3 ad ae v0 ac) ?_ ?_
 ·refine Ak ?_
  refine AB (λaf a w=>∃ag:LI,∃ah:Int,(ag,ah)=af∧∃(ai:GH) (aj:Itm),GLe G ai∧Fr a 56 [(0,v0),(6,(iv x1)),(7,(iv 0)),(8,(iv (i64.wrap (x2-x1)))),(9,(iv ah))]∧Mem W ai w (aj::H)∧Ow R0 3 ai aj v0 ag) ab ⟨_,_,Z,_,it0,gr,f.k Z,m,o0⟩ ?_
  clear ab f m
  rintro af ak al am a w ⟨ag,ah,rfl,ai,aj,an,f,m,ao⟩
  refine Ah (Af ?_)
  refine Ab f Z λa f=>Ai f Z Z Br λa f=>Aa ?_
  rcases Ae al with⟨ap,al⟩|⟨ap,al⟩
  ·refine Al f Z ap ?_
   refine Ao ?_
   refine Ah (Ak (Am ?_))
   refine Ab f Z λa f=>Ab f Z λa f=>Ab f Z λa f=>Ab f Z λa f=> ?_
   have⟨aq,ar,al⟩:=bind_some al
   refine AM f Z call112 (Wk.i m ao ar) λau av aw w ax m ay a f=> ?_
   obtain⟨az,rfl,aA⟩:=ay
   refine Aa (Am ?_)
   refine Ab f Z λa f=>Ai f Z Z AC λa f=>Ac f Z λa f=>Aa ?_
   obtain rfl:=sj al
   exact⟨_,Z,_,_,Z,_,az,(gt an ax),f.k Z,m,aA⟩
  ·refine Aj f Z ap ?_
   refine Ay Z ?_
   obtain rfl:=sj al
   obtain rfl:=am _ rfl
   exact⟨_,Z,_,aj,an,f.k Z,m,ao⟩
 ·rintro a w ⟨ac,rfl,ad,ae,aB,f,m,aC⟩
  refine Af ?_
  refine Ab f Z λa f=>Ai f Z Z AC λa f=>Ac f Z λa f=>Aa ?_
  have⟨aD,aE,hd⟩:=bind_some hd
  refine AD (λa w=>∃aF:LI,aF=aD∧∃(aG:GH) (aH:Itm),GLe ad aG∧Fr a 56 []∧Mem W aG w (aH::H)∧Ow R0 3 aG aH v0 aF) ?_ ?_
  ·refine Ak ?_
   refine AB (λaI a w=>∃aJ:LI,∃aK:Int,(aJ,aK)=aI∧∃(aL:GH) (aM:Itm),GLe ad aL∧Fr a 56 [(0,v0),(6,(iv x1)),(7,(iv 0)),(10,(iv aK))]∧Mem W aL w (aM::H)∧Ow R0 3 aL aM v0 aJ) aE ⟨_,_,Z,_,ae,gr,f.k Z,m,aC⟩ ?_
   clear aE f m
   rintro aI aN aO aP a w ⟨aJ,aK,rfl,aL,aM,aQ,f,m,aR⟩
   refine Ah (Af ?_)
   refine Ab f Z λa f=>Ai f Z Z Br λa f=>Aa ?_
   rcases Ae aO with⟨aS,aO⟩|⟨aS,aO⟩
   ·refine Al f Z aS ?_
    refine Ao ?_
    refine Ah (Ak (Ah ?_))
    refine Bf AA m ?_
    refine p_p 2 Z f (λ_=>AH (f.e Z)) λa f=>p_p 3 Z f (λ_=>AH (f.e Z)) λa f=>p_p 4 Z f (λ_=>AH (f.e Z)) λa f=>p_p 5 Z f (λ_=>AE (f.e Z) (f.e Z) Ar) λa f=>Bg 60017 13 (by kernel_rfl) Z ?_
    refine Ag 0 60017 Z f Z λa f=>Ag 1 60017 Z f Z λa f=>Ag 6 60017 Z f Z λa f=>Ag 7 60017 Z f Z λa f=>Ag 8 60017 Z f Z λa f=>q_p 9 60017 Z f (λ_=>AE (f.e Z) (f.e Z) Ar) λa f=> ?_
    have⟨aT,aU,aO⟩:=bind_some aO
    refine Ax 10 60017 0 m aR T63 aU Z f Z Z λaV a aW f=>AF 11 60017 0 aR Pl3 aW aU Z f Z λaX a aY f=> ?_
    subst aY
    refine Ag 12 60017 Z f Z λa f=>Ag 13 60017 Z f Z λa f=> ?_
    have⟨aZ,a0,aO⟩:=bind_some aO
    refine Ax 14 60017 0 m aR T63 a0 Z f Z Z λa1 a a2 f=>AF 15 60017 0 aR Pl3 a2 a0 Z f Z λa3 a a4 f=> ?_
    subst a4
    have⟨a5,a6,aO⟩:=bind_some aO
    refine Ax 16 60017 0 m aR T63 a6 Z f Z Z λa7 a a8 f=>AJ λa9 w ba m=> ?_
    have aR:=od1 ba aR
    refine Au 0 m aR Z sizeOf3 f Z Z a8 a6 Z Z Z λbb w m bc=> ?_
    have⟨bd,be,aO⟩:=bind_some aO
    refine AV 0 m bc Z T63 f Z Z Z be λbf a bg f=>Au 0 m bc Z sizeOf3 f Z Z bg be Z Z Z λbh w m bi=>Aa (Am ?_)
    refine Ab f Z λa f=>Ab f Z λa f=>Ab f Z λa f=>Ab f Z λa f=> ?_
    have⟨bj,bk,aO⟩:=bind_some aO
    refine AM f Z call112 (Wk.i m bi bk) λbl bm bn w bo m bp a f=> ?_
    obtain⟨bq,rfl,br⟩:=bp
    refine Aa (Am ?_)
    refine Ab f Z λa f=>Ai f Z Z AC λa f=>Ac f Z λa f=>Aa ?_
    obtain rfl:=sj aO
    exact⟨_,Z,_,_,Z,_,bq,(gt aQ (gt ba bo)),f.k Z,m,br⟩
   ·refine Aj f Z aS ?_
    refine Ay Z ?_
    obtain rfl:=sj aO
    obtain rfl:=aP _ rfl
    exact⟨_,Z,_,aM,aQ,f.weak trivial,m,aR⟩
  ·rintro a w ⟨aF,rfl,aG,aH,bs,f,m,bt⟩
   obtain rfl:=sj hd
   exact⟨[],trivial,f.d,_,[aH],(gt aB bs),m,_,Z,bt⟩
theorem Wk.o {v0:Value}{it0:Itm}{x0:LI}{x1 x2:Int}(m:Mem W G w (it0::H))(o0:Ow R0 3 G it0 v0 x0){y:(LI)}(hd:D.o x0 x1 x2=some y):
  Calls prog 99 #[v0,(iv x1),(iv x2)] w (Res W G H (λG' Ho _=>∃i0:Itm,Ho=[i0]∧Ow R0 3 G' i0 v0 y)):=by
 refine As (args:=[v0,(iv x1),(iv x2)]) (N:=65) [] func99 Z Z (lb Z) Z λa f=> ?_
 unfold D.o at hd
 refine Af ?_
 refine Ab f Z λa f=>Ab f Z λa f=>Ai f Z Z AC λa f=>Ac f Z λa f=>Aw ?_
 refine Ab f Z λa f=>Ai f Z Z Br λa f=>Aa ?_
 rcases Ae hd with⟨aa,hd⟩|⟨aa,hd⟩
 ·refine Al f Z aa ?_
  refine Af ?_
  refine Ab f Z λa f=>l_o f (Cb (f.e Z) ⟨_,underlying3⟩ underlying127) λa f=>B9 (cs:=[(.int .u64 0)]) zeroValue127 m f Z Z λab w a m f=>Bk 0 0 (ds:=[(.int .u64 (IntKind.u64.wrap (i64.wrap (x2-x1))))]) m sizeOf127 f Z Z Z (Bi Z BA) Z (lb Z) Z λw m=>Aw ?_
  refine Ab f Z λa f=> ?_
  have⟨ac,ad,hd⟩:=bind_some hd
  refine Ba f Z call107 (Wk.X m ad) λae w af m a f=> ?_
  have o0:=od1 af o0
  refine Ac f Z λa f=>Aw ?_
  refine Ab f Z λa f=>Ab f Z λa f=>Ai f Z Z (Cg Z) λa f=>Ai f Z Z B6 λa f=>Ai f Z Z Ar λa f=>Ai f Z Z AC λa f=>Ac f Z λa f=>Aa ?_
  have⟨ag,ah,hd⟩:=bind_some hd
  refine AD (λa w=>∃ai:LI,ai=ag∧∃(aj:GH) (ak:Itm),GLe ae aj∧Fr a 65 []∧Mem W aj w (ak::H)∧Ow R0 3 aj ak v0 ai) ?_ ?_
  ·refine Ak ?_
   refine AB (λal a w=>∃am:LI,∃an:Int,∃ao:Int,(am,an,ao)=al∧∃(ap:GH) (aq:Itm),GLe ae ap∧Fr a 65 [(0,v0),(1,(iv x1)),(6,(iv (i64.wrap (x2-x1)))),(7,(pb ab)),(8,(.int .u64 ac)),(9,(iv an))]∧Mem W ap w (ib ab 127 [(.int .u64 ao)]::aq::H)∧Ow R0 3 ap aq v0 am) ah ⟨_,_,_,Z,_,it0,gr,f.k Z,m,o0⟩ ?_
   clear ah f m
   rintro al ar au av a w ⟨am,an,ao,rfl,ap,aq,aw,f,m,ax⟩
   refine Ah (Af ?_)
   refine Ab f Z λa f=>Ab f Z λa f=>Ab f Z λa f=>Ai f Z Z (Cg Z) λa f=>Ai f Z Z B6 λa f=>Ai f Z Z Ar λa f=>Ai f Z Z Ar λa f=>Ai f Z Z BW λa f=>Aa ?_
   rcases Ae au with⟨ay,au⟩|⟨ay,au⟩
   ·refine Al f Z ay ?_
    refine Ao ?_
    refine Ah (Ak (Af ?_))
    have⟨az,aA,au⟩:=bind_some au
    refine AM f Z call108 (Wk.a0 m aA) λaB aC aD w aE m aF a f=> ?_
    obtain⟨rfl,rfl⟩:=aF
    have ax:=od1 aE ax
    refine Ab f Z λa f=>Ai f Z Z AC λa f=>Ai f Z Z Cv λa f=>l_o f (Cb (f.e Z) ⟨_,underlying68⟩ underlying3) λa f=>Ac f Z λa f=>Aa (Ah (Af ?_))
    refine Ab f Z λa f=>Ab f Z λa f=>Ai f Z Z Br λa f=>Aa ?_
    have⟨aG,aH,au⟩:=bind_some au
    refine AD (λa w=>∃aI:Int,aI=aG∧∃(aJ:GH),GLe aC aJ∧Fr a 65 [(0,v0),(1,(iv x1)),(6,(iv (i64.wrap (x2-x1)))),(7,(pb ab)),(8,(.int .u64 ac)),(9,(iv an)),(10,(iv aI))]∧Mem W aJ w (ib ab 127 [(.int .u64 az.2)]::aq::H)) ?_ ?_
    ·rcases Ae aH with⟨aK,aH⟩|⟨aK,aH⟩
     ·refine Al f Z aK ?_
      refine Am ?_
      refine Ab f Z λa f=>Ab f Z λa f=>Ai f Z Z AC λa f=>Ac f Z λa f=>Aa ?_
      obtain rfl:=sj aH
      exact⟨_,Z,_,gr,f.k Z,m⟩
     ·refine Aj f Z aK ?_
      refine Ao ?_
      obtain rfl:=sj aH
      exact⟨_,Z,_,gr,f.k Z,m⟩
    ·rintro a w ⟨aI,rfl,aJ,aL,f,m⟩
     have ax:=od1 aL ax
     refine Bf AA m ?_
     refine p_p 2 Z f (λ_=>AH (f.e Z)) λa f=>p_p 3 Z f (λ_=>AH (f.e Z)) λa f=>p_p 4 Z f (λ_=>AH (f.e Z)) λa f=>p_p 5 Z f (λ_=>AE (f.e Z) (f.e Z) Ar) λa f=>Bg 60017 13 (by kernel_rfl) Z ?_
     refine Ag 0 60017 Z f Z λa f=>Ag 1 60017 Z f Z λa f=>Ag 6 60017 Z f Z λa f=>Ag 7 60017 Z f Z λa f=>Ag 8 60017 Z f Z λa f=>q_p 9 60017 Z f (λ_=>AE (f.e Z) (f.e Z) Ar) λa f=> ?_
     have⟨aM,aN,au⟩:=bind_some au
     refine Ax 10 60017 1 m ax T63 aN Z f Z Z λaO a aP f=>AF 11 60017 1 ax Pl3 aP aN Z f Z λaQ a aR f=> ?_
     subst aR
     refine Ag 12 60017 Z f Z λa f=>Ag 13 60017 Z f Z λa f=> ?_
     have⟨aS,aT,au⟩:=bind_some au
     refine Ax 14 60017 1 m ax T63 aT Z f Z Z λaU a aV f=>AF 15 60017 1 ax Pl3 aV aT Z f Z λaW a aX f=> ?_
     subst aX
     have⟨aY,aZ,au⟩:=bind_some au
     refine Ax 16 60017 1 m ax T63 aZ Z f Z Z λa0 a a1 f=>AJ λa2 w a3 m=> ?_
     have ax:=od1 a3 ax
     refine Au 1 m ax Z sizeOf3 f Z Z a1 aZ Z Z Z λa4 w m a5=> ?_
     have⟨a6,a7,au⟩:=bind_some au
     refine AV 1 m a5 Z T63 f Z Z Z a7 λa8 a a9 f=>Au 1 m a5 Z sizeOf3 f Z Z a9 a7 Z Z Z λba w m bb=>Aa (Am ?_)
     refine Ab f Z λa f=>Ai f Z Z Ar λa f=>Ac f Z λa f=>Aa ?_
     obtain rfl:=sj au
     exact⟨_,Z,_,_,_,Z,_,ba,(gt aw (gt aE (gt aL a3))),f.k Z,m,bb⟩
   ·refine Aj f Z ay ?_
    refine Ay Z ?_
    have m:=m.fr 1
    have m:=m.eraseAt 1
    obtain rfl:=sj au
    obtain rfl:=av _ rfl
    exact⟨_,Z,_,aq,aw,f.weak trivial,m,ax⟩
  ·rintro a w ⟨ai,rfl,aj,ak,bc,f,m,bd⟩
   obtain rfl:=sj hd
   exact⟨[],trivial,f.d,_,[ak],(gt af bc),m,_,Z,bd⟩
 ·refine Aj f Z aa ?_
  refine Ao ?_
  obtain rfl:=sj hd
  exact⟨[],trivial,f.d,_,[it0],gr,m,_,Z,o0⟩
theorem Wk.e {v0:Value}{it0:Itm}{b3:Nat}{x0:LI}{x1 x2 aa:Int}(m:Mem W G w (it0::ib b3 3 [(iv aa)]::H))(o0:Ow R0 3 G it0 v0 x0){y:Int×Int×(LI)×Int}(hd:D.e x0 x1 x2 aa=some y):
  Calls prog 117 #[v0,(iv x1),(iv x2),(pb b3)] w (Res W G H (λG' Ho v=>∃i0:Itm,Ho=[i0,ib b3 3 [(iv y.2.2.2)]]∧v= .tuple #[(iv y.1),(iv y.2.1)]∧Ow R0 3 G' i0 v0 y.2.2.1)):=by
 refine As (args:=[v0,(iv x1),(iv x2),(pb b3)]) (N:=28) [.tmp 8,.tmp 9] func117 Z Z (lb Z) Z λa f=> ?_
 unfold D.e at hd
 refine Af ?_
 refine Ac f Z λa f=>Ac f Z λa f=>Aa (Ah (Ah ?_))
 refine A1 9 AA (by kernel_rfl) m ?_
 refine Ag 0 9 Z f Z λa f=>Ag 1 9 Z f Z λa f=> ?_
 have⟨ab,ac,hd⟩:=bind_some hd
 refine Ax 2 9 0 m o0 T63 ac Z f Z Z λad a ae f=>AF 3 9 0 o0 Pl3 ae ac Z f Z λaf a ag f=> ?_
 subst ag
 refine Ag 4 9 Z f Z λa f=>Ag 5 9 Z f Z λa f=> ?_
 have⟨ah,ai,hd⟩:=bind_some hd
 refine Ax 6 9 0 m o0 T63 ai Z f Z Z λaj a ak f=>AF 7 9 0 o0 Pl3 ak ai Z f Z λal a am f=> ?_
 subst am
 have⟨an,ao,hd⟩:=bind_some hd
 refine Bb (i:=8) 9 Z (by kernel_rfl) Z f Z Z Z call103 (λ_ _ w ap m=>Wk.a m ao) λa f=>AJ λaq w ar m=> ?_
 have o0:=od1 ar o0
 refine Aa ?_
 rcases Ae hd with⟨au,hd⟩|⟨au,hd⟩
 ·refine Al f Z au ?_
  refine Af ?_
  refine Ab f Z λa f=>l_o f (Bt (f.e Z)) λa f=>AS 1 0 m Pl3 f Z Z Z Z λa f=>Ai f Z Z Ar λa f=>l_o f (Bt (f.e Z)) λa f=>Bk 1 0 (ds:=[(iv (i64.wrap (aa+1)))]) m sizeOf3 f Z Z Z (Bi Z BA) Z (lb Z) Z λw m=>Aw ?_
  refine Ab f Z λa f=>Ab f Z λa f=>Ac f Z λa f=>Ac f Z λa f=>Aa ?_
  refine Ap ?_
  obtain rfl:=sj hd
  exact⟨[(iv x2),(iv x1)],⟨f.get _ _ Z,f.get _ _ Z,trivial⟩,f.d,_,[it0,ib b3 3 [(iv (i64.wrap (aa+1)))]],ar,m,_,Z,Z,o0⟩
 ·refine Aj f Z au ?_
  refine Ao ?_
  refine Af ?_
  refine Ab f Z λa f=>Ab f Z λa f=>Ac f Z λa f=>Ac f Z λa f=>Aa ?_
  refine Ap ?_
  obtain rfl:=sj hd
  exact⟨[(iv x1),(iv x2)],⟨f.get _ _ Z,f.get _ _ Z,trivial⟩,f.d,_,[it0,ib b3 3 [(iv aa)]],ar,m,_,Z,Z,o0⟩
theorem Wk.h {v0:Value}{it0:Itm}{b4:Nat}{x0:LI}{x1 x2 x3 aa:Int}(m:Mem W G w (it0::ib b4 3 [(iv aa)]::H))(o0:Ow R0 3 G it0 v0 x0){y:Int×(LI)×Int}(hd:D.h x0 x1 x2 x3 aa=some y):
  Calls prog 114 #[v0,(iv x1),(iv x2),(iv x3),(pb b4)] w (Res W G H (λG' Ho v=>∃i0:Itm,Ho=[i0,ib b4 3 [(iv y.2.2)]]∧v=(iv y.1)∧Ow R0 3 G' i0 v0 y.2.1)):=by
 refine As (args:=[v0,(iv x1),(iv x2),(iv x3),(pb b4)]) (N:=36) [.tmp 10] func114 Z Z (lb Z) Z λa f=> ?_
 unfold D.h at hd
 refine Af ?_
 refine Ac f Z λa f=>Aw ?_
 refine Ab f Z λa f=>Ab f Z λa f=>Ab f Z λa f=>Ab f Z λa f=> ?_
 have⟨ab,ac,hd⟩:=bind_some hd
 refine AM f Z call117 (Wk.e m o0 ac) λad ae af w ag m ah a f=> ?_
 obtain⟨ai,rfl,rfl,aj⟩:=ah
 refine Ab f Z λa f=>l_o f (A6 (f.e Z) Z) λa f=>l_o f (A6 (f.e Z) Z) λa f=>Ac f Z λa f=>Ac f Z λa f=>Aw ?_
 refine Ab f Z λa f=>Ab f Z λa f=>Ab f Z λa f=>Ab f Z λa f=> ?_
 have⟨ak,al,hd⟩:=bind_some hd
 refine AM f Z call117 (Wk.e m aj al) λam an ao w ap m aq a f=> ?_
 obtain⟨ar,rfl,rfl,au⟩:=aq
 refine Ab f Z λa f=>l_o f (A6 (f.e Z) Z) λa f=>l_o f (A6 (f.e Z) Z) λa f=>Ac f Z λa f=>Ac f Z λa f=>Aw ?_
 refine Ab f Z λa f=>Ab f Z λa f=>Ab f Z λa f=>Ab f Z λa f=> ?_
 have⟨av,aw,hd⟩:=bind_some hd
 refine AM f Z call117 (Wk.e m au aw) λax ay az w aA m aB a f=> ?_
 obtain⟨aC,rfl,rfl,aD⟩:=aB
 refine Ab f Z λa f=>l_o f (A6 (f.e Z) Z) λa f=>l_o f (A6 (f.e Z) Z) λa f=>Ac f Z λa f=>Ac f Z λa f=>Aw ?_
 refine Ab f Z λa f=>Ac f Z λa f=>Aa ?_
 refine Ap ?_
 obtain rfl:=sj hd
 exact⟨[(iv av.2.1)],f.g Z,f.d,_,[aC,ib b4 3 [(iv av.2.2.2)]],(gt ag (gt ap aA)),m,_,Z,Z,aD⟩
theorem Wk.d {v0:Value}{it0:Itm}{b2:Nat}{x0:LI}{x1 aa:Int}(m:Mem W G w (it0::ib b2 3 [(iv aa)]::H))(o0:Ow R0 3 G it0 v0 x0){y:Int×(LI)×Int}(hd:D.d x0 x1 aa=some y):
  Calls prog 113 #[v0,(iv x1),(pb b2)] w (Res W G H (λG' Ho v=>∃i0:Itm,Ho=[i0,ib b2 3 [(iv y.2.2)]]∧v=(iv y.1)∧Ow R0 3 G' i0 v0 y.2.1)):=by
 refine As (args:=[v0,(iv x1),(pb b2)]) (N:=15) [.tmp 6] func113 Z Z (lb Z) Z λa f=> ?_
 unfold D.d at hd
 refine Af ?_
 refine Ac f Z λa f=>Aw ?_
 refine Ab f Z λa f=>Ab f Z λa f=>Ai f Z Z AC λa f=>Ab f Z λa f=>Ab f Z λa f=>Ai f Z Z Ar λa f=>Ab f Z λa f=> ?_
 have⟨ab,ac,hd⟩:=bind_some hd
 refine AM f Z call114 (Wk.h m o0 ac) λad ae af w ag m ah a f=> ?_
 obtain⟨ai,rfl,rfl,aj⟩:=ah
 refine Ac f Z λa f=>Aa ?_
 refine Ap ?_
 obtain rfl:=sj hd
 exact⟨[(iv ab.1)],f.g Z,f.d,_,[ai,ib b2 3 [(iv ab.2.2)]],ag,m,_,Z,Z,aj⟩
theorem Wk.x {v0:Value}{it0:Itm}{x0:LI}{x1 x2:Int}(m:Mem W G w (it0::H))(o0:Ow R0 3 G it0 v0 x0){y:Int×Int×(LI)}(hd:D.x x0 x1 x2=some y):
  Calls prog 100 #[v0,(iv x1),(iv x2)] w (Res W G H (λG' Ho v=>∃i0:Itm,Ho=[i0]∧v= .tuple #[(iv y.1),(iv y.2.1)]∧Ow R0 3 G' i0 v0 y.2.2)):=by
 refine As (args:=[v0,(iv x1),(iv x2)]) (N:=57) [.tmp 6,.tmp 7] func100 Z Z (lb Z) Z λa f=> ?_
 unfold D.x at hd
 refine Af ?_
 refine Ac f Z λa f=>Ac f Z λa f=>Aw ?_
 refine Ab f Z λa f=>Ab f Z λa f=>Ai f Z Z AC λa f=>Ac f Z λa f=>Aw ?_
 refine B9 (cs:=[(iv 0)]) zeroValue3 m f Z Z λaa w a m f=>Aw ?_
 refine Ab f Z λa f=>Ab f Z λa f=>Ai f Z Z (Cg Z) λa f=>Ai f Z Z B6 λa f=>Ai f Z Z Ar λa f=>Ac f Z λa f=>Aw ?_
 refine Ab f Z λa f=>Ab f Z λa f=>Ai f Z Z (Cg Z) λa f=>Ai f Z Z B6 λa f=>Ai f Z Z Ar λa f=>Ac f Z λa f=>Aw ?_
 refine Ab f Z λa f=>Ab f Z λa f=>Ai f Z Z (Cg Z) λa f=>Ai f Z Z B6 λa f=>Ai f Z Z Ar λa f=>Ac f Z λa f=>Aa (Ah (Af ?_))
 refine Ab f Z λa f=>Ai f Z Z Br λa f=>Aa ?_
 rcases Ae hd with⟨ab,hd⟩|⟨ab,hd⟩
 ·refine Al f Z ab ?_
  refine Ah (Af ?_)
  refine Ab f Z λa f=>Ai f Z Z Br λa f=>Aa ?_
  have⟨ac,ad,hd⟩:=bind_some hd
  refine AD (λa w=>∃ae:LI,∃af:Int,∃ag:Int,∃ah:Int,∃ai:Int,(ae,af,ag,ah,ai)=ac∧∃(aj:GH) (ak:Itm),GLe G aj∧Fr a 57 [(0,v0),(9,(pb aa)),(10,(iv af)),(11,(iv ag)),(12,(iv ah))]∧Mem W aj w (ib aa 3 [(iv ai)]::ak::H)∧Ow R0 3 aj ak v0 ae) ?_ ?_
  ·rcases Ae ad with⟨al,ad⟩|⟨al,ad⟩
   ·refine Al f Z al ?_
    refine Af ?_
    refine Ab f Z λa f=>Ab f Z λa f=> ?_
    have m:=m.fr 1
    have⟨am,an,ad⟩:=bind_some ad
    refine AM f Z call113 (Wk.d m o0 an) λao ap aq w ar m au a f=> ?_
    obtain⟨av,rfl,rfl,aw⟩:=au
    refine Ac f Z λa f=>Aw ?_
    refine Ab f Z λa f=>Ab f Z λa f=> ?_
    have⟨ax,ay,ad⟩:=bind_some ad
    refine AM f Z call113 (Wk.d m aw ay) λaz aA aB w aC m aD a f=> ?_
    obtain⟨aE,rfl,rfl,aF⟩:=aD
    refine Ac f Z λa f=>Aa (Am ?_)
    refine Ab f Z λa f=>Ab f Z λa f=> ?_
    have⟨aG,aH,ad⟩:=bind_some ad
    refine AM f Z call113 (Wk.d m aF aH) λaI aJ aK w aL m aM a f=> ?_
    obtain⟨aN,rfl,rfl,aO⟩:=aM
    refine Ac f Z λa f=>Aa ?_
    have m:=m.fr 1
    obtain rfl:=sj ad
    exact⟨_,_,_,_,_,Z,_,aN,(gt ar (gt aC aL)),f.k Z,m,aO⟩
   ·refine Aj f Z al ?_
    refine Ao ?_
    obtain rfl:=sj ad
    exact⟨_,_,_,_,_,Z,_,it0,gr,f.k Z,m,o0⟩
  ·rintro a w ⟨ae,af,ag,ah,ai,rfl,aj,ak,aP,f,m,aQ⟩
   refine Am ?_
   refine Ab f Z λa f=>Ab f Z λa f=>Ab f Z λa f=>Ab f Z λa f=> ?_
   have m:=m.fr 1
   have⟨aR,aS,hd⟩:=bind_some hd
   refine AM f Z call114 (Wk.h m aQ aS) λaT aU aV w aW m aX a f=> ?_
   obtain⟨aY,rfl,rfl,aZ⟩:=aX
   refine Ac f Z λa f=>Aw ?_
   refine AS 1 0 m Pl3 f Z Z Z Z λa f=>Aa (Ak (Af ?_))
   refine Ai f Z Z Bv λa f=>Ac f Z λa f=>Aa ?_
   rcases Ae hd with⟨a0,hd⟩|⟨a0,hd⟩
   ·refine Al f Z a0 ?_
    refine Af ?_
    refine Ab f Z λa f=>Ac f Z λa f=>Ac f Z λa f=>Aa ?_
    refine Ap ?_
    have m:=m.eraseAt 1
    obtain rfl:=sj hd
    exact⟨[(iv aR.1),(iv 1)],⟨f.get _ _ Z,f.get _ _ Z,trivial⟩,f.d,_,[aY],(gt aP aW),m,_,Z,Z,aZ⟩
   ·refine Aj f Z a0 ?_
    refine Af ?_
    refine Ai f Z Z Bv λa f=>Ac f Z λa f=>Aa ?_
    rcases Ae hd with⟨a1,hd⟩|⟨a1,hd⟩
    ·refine Al f Z a1 ?_
     refine Af ?_
     refine Ab f Z λa f=>Ac f Z λa f=>Ac f Z λa f=>Aa ?_
     refine Ap ?_
     have m:=m.eraseAt 1
     obtain rfl:=sj hd
     exact⟨[(iv aR.1),(iv 2)],⟨f.get _ _ Z,f.get _ _ Z,trivial⟩,f.d,_,[aY],(gt aP aW),m,_,Z,Z,aZ⟩
    ·refine Aj f Z a1 ?_
     refine Af ?_
     refine Ab f Z λa f=>Ac f Z λa f=>Ac f Z λa f=>Aa ?_
     refine Ap ?_
     have m:=m.eraseAt 1
     obtain rfl:=sj hd
     exact⟨[(iv aR.1),(iv 0)],⟨f.get _ _ Z,f.get _ _ Z,trivial⟩,f.d,_,[aY],(gt aP aW),m,_,Z,Z,aZ⟩
 ·refine Aj f Z ab ?_
  refine Ao ?_
  refine Af ?_
  refine AS 0 0 m Pl3 f Z Z Z Z λa f=>Aa (Ak (Af ?_))
  refine Ai f Z Z Bv λa f=>Ac f Z λa f=>Aa ?_
  rcases Ae hd with⟨a2,hd⟩|⟨a2,hd⟩
  ·refine Al f Z a2 ?_
   refine Af ?_
   refine Ab f Z λa f=>Ac f Z λa f=>Ac f Z λa f=>Aa ?_
   refine Ap ?_
   have m:=m.fr 1
   have m:=m.eraseAt 1
   obtain rfl:=sj hd
   exact⟨[(iv (i64.wrap (x1+(i64.wrap ((i64.wrap (Int.tdiv (i64.wrap (x2-x1)) 4))*2))))),(iv 1)],⟨f.get _ _ Z,f.get _ _ Z,trivial⟩,f.d,_,[it0],gr,m,_,Z,Z,o0⟩
  ·refine Aj f Z a2 ?_
   refine Af ?_
   refine Ai f Z Z Bv λa f=>Ac f Z λa f=>Aa ?_
   rcases Ae hd with⟨a3,hd⟩|⟨a3,hd⟩
   ·refine Al f Z a3 ?_
    refine Af ?_
    refine Ab f Z λa f=>Ac f Z λa f=>Ac f Z λa f=>Aa ?_
    refine Ap ?_
    have m:=m.fr 1
    have m:=m.eraseAt 1
    obtain rfl:=sj hd
    exact⟨[(iv (i64.wrap (x1+(i64.wrap ((i64.wrap (Int.tdiv (i64.wrap (x2-x1)) 4))*2))))),(iv 2)],⟨f.get _ _ Z,f.get _ _ Z,trivial⟩,f.d,_,[it0],gr,m,_,Z,Z,o0⟩
   ·refine Aj f Z a3 ?_
    refine Af ?_
    refine Ab f Z λa f=>Ac f Z λa f=>Ac f Z λa f=>Aa ?_
    refine Ap ?_
    have m:=m.fr 1
    have m:=m.eraseAt 1
    obtain rfl:=sj hd
    exact⟨[(iv (i64.wrap (x1+(i64.wrap ((i64.wrap (Int.tdiv (i64.wrap (x2-x1)) 4))*2))))),(iv 0)],⟨f.get _ _ Z,f.get _ _ Z,trivial⟩,f.d,_,[it0],gr,m,_,Z,Z,o0⟩
theorem Wk.n {v0:Value}{it0:Itm}{x0:LI}{x1 x2:Int}(m:Mem W G w (it0::H))(o0:Ow R0 3 G it0 v0 x0){y:(LI)}(hd:D.n x0 x1 x2=some y):
  Calls prog 101 #[v0,(iv x1),(iv x2)] w (Res W G H (λG' Ho _=>∃i0:Itm,Ho=[i0]∧Ow R0 3 G' i0 v0 y)):=by
 refine As (args:=[v0,(iv x1),(iv x2)]) (N:=32) [] func101 Z Z (lb Z) Z λa f=> ?_
 unfold D.n at hd
 refine Af ?_
 refine Ab f Z λa f=>Ac f Z λa f=>Aw ?_
 refine Ab f Z λa f=>Ai f Z Z AC λa f=>Ac f Z λa f=>Aa ?_
 have⟨aa,ab,hd⟩:=bind_some hd
 refine AD (λa w=>∃ac:LI,ac=aa∧∃(ad:GH) (ae:Itm),GLe G ad∧Fr a 32 []∧Mem W ad w (ae::H)∧Ow R0 3 ad ae v0 ac) ?_ ?_
 ·refine Ak ?_
  refine AB (λaf a w=>∃ag:LI,∃ah:Int,∃ai:Int,(ag,ah,ai)=af∧∃(aj:GH) (ak:Itm),GLe G aj∧Fr a 32 [(0,v0),(6,(iv ah)),(7,(iv ai))]∧Mem W aj w (ak::H)∧Ow R0 3 aj ak v0 ag) ab ⟨_,_,_,Z,_,it0,gr,f.k Z,m,o0⟩ ?_
  clear ab f m
  rintro af al am an a w ⟨ag,ah,ai,rfl,aj,ak,ao,f,m,ap⟩
  refine Ah (Af ?_)
  refine Ab f Z λa f=>Ab f Z λa f=>Ai f Z Z AT λa f=>Aa ?_
  rcases Ae am with⟨aq,am⟩|⟨aq,am⟩
  ·refine Al f Z aq ?_
   refine Ao ?_
   refine Ak (Ah ?_)
   refine Bf AA m ?_
   refine p_p 2 Z f (λ_=>AH (f.e Z)) λa f=>p_p 3 Z f (λ_=>AH (f.e Z)) λa f=>Bg 12013 11 (by kernel_rfl) Z ?_
   refine Ag 0 12013 Z f Z λa f=>Ag 1 12013 Z f Z λa f=>Ag 4 12013 Z f Z λa f=>Ag 5 12013 Z f Z λa f=> ?_
   have⟨ar,au,am⟩:=bind_some am
   refine Ax 6 12013 0 m ap T63 au Z f Z Z λav a aw f=>AF 7 12013 0 ap Pl3 aw au Z f Z λax a ay f=> ?_
   subst ay
   refine Ag 8 12013 Z f Z λa f=>Ag 9 12013 Z f Z λa f=> ?_
   have⟨az,aA,am⟩:=bind_some am
   refine Ax 10 12013 0 m ap T63 aA Z f Z Z λaB a aC f=>AF 11 12013 0 ap Pl3 aC aA Z f Z λaD a aE f=> ?_
   subst aE
   have⟨aF,aG,am⟩:=bind_some am
   refine Ax 12 12013 0 m ap T63 aG Z f Z Z λaH a aI f=>AJ λaJ w aK m=> ?_
   have ap:=od1 aK ap
   refine Au 0 m ap Z sizeOf3 f Z Z aI aG Z Z Z λaL w m aM=> ?_
   have⟨aN,aO,am⟩:=bind_some am
   refine AV 0 m aM Z T63 f Z Z Z aO λaP a aQ f=>Au 0 m aM Z sizeOf3 f Z Z aQ aO Z Z Z λaR w m aS=>Aw ?_
   refine Ab f Z λa f=>Ai f Z Z Ar λa f=>Ac f Z λa f=>Aa (Am ?_)
   refine Ab f Z λa f=>Ai f Z Z AC λa f=>Ac f Z λa f=>Aa ?_
   obtain rfl:=sj am
   exact⟨_,Z,_,_,_,Z,_,aR,(gt ao aK),f.k Z,m,aS⟩
  ·refine Aj f Z aq ?_
   refine Ay Z ?_
   obtain rfl:=sj am
   obtain rfl:=an _ rfl
   exact⟨_,Z,_,ak,ao,f.weak trivial,m,ap⟩
 ·rintro a w ⟨ac,rfl,ad,ae,aT,f,m,aU⟩
  obtain rfl:=sj hd
  exact⟨[],trivial,f.d,_,[ae],aT,m,_,Z,aU⟩
theorem Wk.v {v0:Value}{it0:Itm}{x0:LI}{x1 x2:Int}(m:Mem W G w (it0::H))(o0:Ow R0 3 G it0 v0 x0){y:Bool×(LI)}(hd:D.v x0 x1 x2=some y):
  Calls prog 102 #[v0,(iv x1),(iv x2)] w (Res W G H (λG' Ho v=>∃i0:Itm,Ho=[i0]∧v=(.bool y.1)∧Ow R0 3 G' i0 v0 y.2)):=by
 refine As (args:=[v0,(iv x1),(iv x2)]) (N:=133) [.tmp 6] func102 Z Z (lb Z) Z λa f=> ?_
 unfold D.v at hd
 refine Af ?_
 refine Ac f Z λa f=>Aw ?_
 refine Ab f Z λa f=>Ai f Z Z Ar λa f=>Ac f Z λa f=>Aa (Ah (Af ?_))
 refine Ac f Z λa f=>Aa ?_
 have⟨aa,ab,hd⟩:=bind_some hd
 refine AD (λa w=>∃q_1621':LI,aa= .inl q_1621'∧∃ac:LI,ac=q_1621'∧∃(ad:GH) (ae:Itm),GLe G ad∧Fr a 133 []∧Mem W ad w (ae::H)∧Ow R0 3 ad ae v0 ac) ?_ ?_
 ·refine Ak ?_
  refine AB (λaf a w=>∃ag:LI,∃ah:Int,∃ai:Int,(ag,ah,ai)=af∧∃(aj:GH) (ak:Itm),GLe G aj∧Fr a 133 [(0,v0),(1,(iv x1)),(2,(iv x2)),(7,(iv ah)),(8,(iv ai))]∧Mem W aj w (ak::H)∧Ow R0 3 aj ak v0 ag) ab ⟨_,_,_,Z,_,it0,gr,f.k Z,m,o0⟩ ?_
  clear ab f m
  rintro af al am an a w ⟨ag,ah,ai,rfl,aj,ak,ao,f,m,ap⟩
  refine Ah (Af ?_)
  refine Ab f Z λa f=>Ai f Z Z AT λa f=>Aa ?_
  rcases Ae am with⟨aq,am⟩|⟨aq,am⟩
  ·refine Al f Z aq ?_
   refine Ao ?_
   refine Ah (Ak (Ah ?_))
   have⟨ar,au,am⟩:=bind_some am
   refine AD (λa w=>∃av:Int,av=ar∧∃(aw:GH),GLe aj aw∧Fr a 133 [(0,v0),(1,(iv x1)),(2,(iv x2)),(7,(iv av)),(8,(iv ai))]∧Mem W aw w (ak::H)) ?_ ?_
   ·refine Ak ?_
    refine AB (λax a w=>∃ay:Int,ay=ax∧∃(az:GH),GLe aj az∧Fr a 133 [(0,v0),(1,(iv x1)),(2,(iv x2)),(7,(iv ay)),(8,(iv ai))]∧Mem W az w (ak::H)) au ⟨_,Z,_,gr,f.k Z,m⟩ ?_
    clear au f m
    rintro ax aA aB aC a w ⟨ay,rfl,az,aD,f,m⟩
    have ap:=od1 aD ap
    refine Ah (Ah ?_)
    refine A1 16 AA (by kernel_rfl) m ?_
    refine Ag 0 16 Z f Z λa f=>Ag 1 16 Z f Z λa f=>q_p 2 16 Z f (λ_=>AE (f.e Z) (f.e Z) AT) λa f=>Ag 3 16 Z f Z λa f=> ?_
    have⟨aE,aF,aB⟩:=bind_some aB
    refine Bx (fuel':=0) (listed':= #[true,true,true,true,true,true,true,true,true,true,true,true,true,true,true,true]) (λa=>Fr a 133 [(0,v0),(1,(iv x1)),(2,(iv x2)),(7,(iv ay)),(8,(iv ai)),(17,(iv ay)),(18,(iv x2)),(19,(.bool (decide (ay<x2)))),(20,(.bool (decide (ay<x2)))),(32,(.bool aE))]) ?_ ?_
    ·intro a f
     refine AJ λaG w aH m=>Aa ?_
     rcases Ae aB with⟨aI,aB⟩|⟨aI,aB⟩
     ·refine Al f Z aI ?_
      refine Ao ?_
      refine Ak (Am ?_)
      refine Ab f Z λa f=>Ai f Z Z Ar λa f=>Ac f Z λa f=>Aa ?_
      obtain rfl:=sj aB
      exact⟨_,Z,_,Z,_,(gt aD aH),f.k Z,m⟩
     ·refine Aj f Z aI ?_
      refine Ay Z ?_
      obtain rfl:=sj aB
      obtain rfl:=aC _ rfl
      exact⟨_,Z,_,(gt aD aH),f.k Z,m⟩
    ·intro aJ
     rcases Ae aF with⟨aK,aF⟩|⟨aK,aF⟩
     ·refine Ag (hw:=wo f aK) 4 16 Z f Z λa f=> ?_
      refine Ag (hw:=wo f aK) 5 16 Z f Z λa f=> ?_
      have⟨aL,aM,aF⟩:=bind_some aF
      refine Ax (hw:=wo f aK) 6 16 0 m ap T63 aM Z f Z Z λaN a aO f=>AF (hw:=wo f aK) 7 16 0 ap Pl3 aO aM Z f Z λaP a aQ f=> ?_
      subst aQ
      refine Ag (hw:=wo f aK) 8 16 Z f Z λa f=>Ag (hw:=wo f aK) 9 16 Z f Z λa f=>q_p (hw:=wo f aK) 10 16 Z f (λ_=>AE (f.e Z) (f.e Z) AC) λa f=> ?_
      have⟨aR,aS,aF⟩:=bind_some aF
      refine Ax (hw:=wo f aK) 11 16 0 m ap T63 aS Z f Z Z λaT a aU f=>AF (hw:=wo f aK) 12 16 0 ap Pl3 aU aS Z f Z λaV a aW f=> ?_
      subst aW
      have⟨aX,aY,aF⟩:=bind_some aF
      refine Bb (i:=13) 16 Z (by kernel_rfl) Z f (AZ f Z Z Z aK) Z Z call103 (λ_ _ w aZ m=>Wk.a m aY) λa f=>q_p (hw:=wo f aK) 14 16 Z f (λ_=>Be (f.e Z)) λa f=>q_p 15 16 Z f (λ_=>AO (f.e Z) aK (f.e Z)) λa f=> ?_
      obtain rfl:=sj aF
      exact aJ _ (f.k Z)
     ·refine An 4 16 Z f aK λa f=> ?_
      refine An 5 16 Z f aK λa f=>An 6 16 Z f aK λa f=>An 7 16 Z f aK λa f=>An 8 16 Z f aK λa f=>An 9 16 Z f aK λa f=>An 10 16 Z f aK λa f=>An 11 16 Z f aK λa f=>An 12 16 Z f aK λa f=>An 13 16 Z f aK λa f=>An 14 16 Z f aK λa f=>q_p 15 16 Z f (λ_=>AP (f.e Z) aK (f.e Z)) λa f=> ?_
      obtain rfl:=sj aF
      exact aJ _ (f.k Z)
   ·rintro a w ⟨av,rfl,aw,a0,f,m⟩
    have ap:=od1 a0 ap
    refine Ah (Af ?_)
    refine Ab f Z λa f=>Ab f Z λa f=>Ai f Z Z Bv λa f=>Aa ?_
    rcases Ae am with⟨a1,am⟩|⟨a1,am⟩
    ·refine Al f Z a1 ?_
     refine Af ?_
     refine Ac f Z λa f=>Aa ?_
     refine Ap ?_
     obtain rfl:=sj am
     obtain rfl:=an _ rfl
     obtain rfl:=sj hd
     exact⟨[(.bool true)],f.g Z,f.d,_,[ak],(gt ao a0),m,_,Z,Z,ap⟩
    ·refine Aj f Z a1 ?_
     refine Ao ?_
     refine Ah (Af ?_)
     refine Ab f Z λa f=>Ab f Z λa f=>Ai f Z Z AC λa f=>Ai f Z Z AT λa f=>Aa ?_
     rcases Ae am with⟨a2,am⟩|⟨a2,am⟩
     ·refine Al f Z a2 ?_
      refine Af ?_
      refine Ac f Z λa f=>Aa ?_
      refine Ap ?_
      obtain rfl:=sj am
      obtain rfl:=an _ rfl
      obtain rfl:=sj hd
      exact⟨[(.bool false)],f.g Z,f.d,_,[ak],(gt ao a0),m,_,Z,Z,ap⟩
     ·refine Aj f Z a2 ?_
      refine Ao ?_
      refine Ah ?_
      refine Bf AA m ?_
      refine p_p 2 Z f (λ_=>AH (f.e Z)) λa f=>p_p 3 Z f (λ_=>AH (f.e Z)) λa f=>p_p 4 Z f (λ_=>AE (f.e Z) (f.e Z) AC) λa f=>Bg 28015 12 (by kernel_rfl) Z ?_
      refine Ag 0 28015 Z f Z λa f=>Ag 1 28015 Z f Z λa f=>Ag 5 28015 Z f Z λa f=>Ag 6 28015 Z f Z λa f=>q_p 7 28015 Z f (λ_=>AE (f.e Z) (f.e Z) AC) λa f=> ?_
      have⟨a3,a4,am⟩:=bind_some am
      refine Ax 8 28015 0 m ap T63 a4 Z f Z Z λa5 a a6 f=>AF 9 28015 0 ap Pl3 a6 a4 Z f Z λa7 a a8 f=> ?_
      subst a8
      refine Ag 10 28015 Z f Z λa f=>Ag 11 28015 Z f Z λa f=> ?_
      have⟨a9,ba,am⟩:=bind_some am
      refine Ax 12 28015 0 m ap T63 ba Z f Z Z λbb a bc f=>AF 13 28015 0 ap Pl3 bc ba Z f Z λbd a be f=> ?_
      subst be
      have⟨bf,bg,am⟩:=bind_some am
      refine Ax 14 28015 0 m ap T63 bg Z f Z Z λbh a bi f=>AJ λbj w bk m=> ?_
      have ap:=od1 bk ap
      refine Au 0 m ap Z sizeOf3 f Z Z bi bg Z Z Z λbl w m bm=> ?_
      have⟨bn,bo,am⟩:=bind_some am
      refine AV 0 m bm Z T63 f Z Z Z bo λbp a bq f=>Au 0 m bm Z sizeOf3 f Z Z bq bo Z Z Z λbr w m bs=>Aa (Ah (Af ?_))
      refine Ab f Z λa f=>Ab f Z λa f=>Ai f Z Z AC λa f=>Ai f Z Z Br λa f=>Aa ?_
      have⟨bt,bu,am⟩:=bind_some am
      refine AD (λa w=>∃bv:LI,bv=bt∧∃(bw:GH) (bx:Itm),GLe bj bw∧Fr a 133 [(0,v0),(1,(iv x1)),(2,(iv x2)),(7,(iv av)),(8,(iv ai))]∧Mem W bw w (bx::H)∧Ow R0 3 bw bx v0 bv) ?_ ?_
      ·rcases Ae bu with⟨bz,bu⟩|⟨bz,bu⟩
       ·refine Al f Z bz ?_
        refine Af ?_
        refine Ab f Z λa f=>Ai f Z Z AC λa f=>Ac f Z λa f=>Aa ?_
        have⟨bA,bB,bu⟩:=bind_some bu
        refine AD (λa w=>∃bC:LI,bC=bA∧∃(bD:GH) (bE:Itm),GLe bj bD∧Fr a 133 [(0,v0),(1,(iv x1)),(2,(iv x2)),(7,(iv av)),(8,(iv ai))]∧Mem W bD w (bE::H)∧Ow R0 3 bD bE v0 bC) ?_ ?_
        ·refine Ak ?_
         refine AB (λbF a w=>∃bG:LI,∃bH:Int,(bG,bH)=bF∧∃(bI:GH) (bJ:Itm),GLe bj bI∧Fr a 133 [(0,v0),(1,(iv x1)),(2,(iv x2)),(7,(iv av)),(8,(iv ai)),(9,(iv bH))]∧Mem W bI w (bJ::H)∧Ow R0 3 bI bJ v0 bG) bB ⟨_,_,Z,_,br,gr,f.k Z,m,bs⟩ ?_
         clear bB f m
         rintro bF bK bL bM a w ⟨bG,bH,rfl,bI,bJ,bN,f,m,bO⟩
         refine Ah (Af ?_)
         refine Ab f Z λa f=>Ai f Z Z Br λa f=>Aa ?_
         rcases Ae bL with⟨bP,bL⟩|⟨bP,bL⟩
         ·refine Al f Z bP ?_
          refine Ao ?_
          refine Ah (Ak (Ah (Ah ?_)))
          refine A1 11 AA (by kernel_rfl) m ?_
          refine Ag 0 11 Z f Z λa f=>Ag 1 11 Z f Z λa f=> ?_
          have⟨bQ,bR,bL⟩:=bind_some bL
          refine Ax 2 11 0 m bO T63 bR Z f Z Z λbS a bT f=>AF 3 11 0 bO Pl3 bT bR Z f Z λbU a bV f=> ?_
          subst bV
          refine Ag 4 11 Z f Z λa f=>Ag 5 11 Z f Z λa f=>q_p 6 11 Z f (λ_=>AE (f.e Z) (f.e Z) AC) λa f=> ?_
          have⟨bW,bX,bL⟩:=bind_some bL
          refine Ax 7 11 0 m bO T63 bX Z f Z Z λbY a bZ f=>AF 8 11 0 bO Pl3 bZ bX Z f Z λb0 a b1 f=> ?_
          subst b1
          have⟨b2,b3,bL⟩:=bind_some bL
          refine Bb (i:=9) 11 Z (by kernel_rfl) Z f Z Z Z call103 (λ_ _ w b4 m=>Wk.a m b3) λa f=>q_p 10 11 Z f (λ_=>Be (f.e Z)) λa f=>AJ λb5 w b6 m=> ?_
          have bO:=od1 b6 bO
          refine Aa ?_
          rcases Ae bL with⟨b7,bL⟩|⟨b7,bL⟩
          ·refine Al f Z b7 ?_
           refine Ay Z ?_
           obtain rfl:=sj bL
           obtain rfl:=bM _ rfl
           exact⟨_,Z,_,bJ,(gt bN b6),f.k Z,m,bO⟩
          ·refine Aj f Z b7 ?_
           refine Ao ?_
           refine Bf AA m ?_
           refine p_p 2 Z f (λ_=>AH (f.e Z)) λa f=>p_p 3 Z f (λ_=>AH (f.e Z)) λa f=>p_p 4 Z f (λ_=>AE (f.e Z) (f.e Z) AC) λa f=>Bg 28015 12 (by kernel_rfl) Z ?_
           refine Ag 0 28015 Z f Z λa f=>Ag 1 28015 Z f Z λa f=>Ag 5 28015 Z f Z λa f=>Ag 6 28015 Z f Z λa f=>q_p 7 28015 Z f (λ_=>AE (f.e Z) (f.e Z) AC) λa f=> ?_
           have⟨b8,b9,bL⟩:=bind_some bL
           refine Ax 8 28015 0 m bO T63 b9 Z f Z Z λca a cb f=>AF 9 28015 0 bO Pl3 cb b9 Z f Z λcc a cd f=> ?_
           subst cd
           refine Ag 10 28015 Z f Z λa f=>Ag 11 28015 Z f Z λa f=> ?_
           have⟨ce,cf,bL⟩:=bind_some bL
           refine Ax 12 28015 0 m bO T63 cf Z f Z Z λcg a ch f=>AF 13 28015 0 bO Pl3 ch cf Z f Z λci a cj f=> ?_
           subst cj
           have⟨ck,cl,bL⟩:=bind_some bL
           refine Ax 14 28015 0 m bO T63 cl Z f Z Z λcm a cn f=>AJ λco w cp m=> ?_
           have bO:=od1 cp bO
           refine Au 0 m bO Z sizeOf3 f Z Z cn cl Z Z Z λcq w m cr=> ?_
           have⟨cs,ct,bL⟩:=bind_some bL
           refine AV 0 m cr Z T63 f Z Z Z ct λcu a cv f=>Au 0 m cr Z sizeOf3 f Z Z cv ct Z Z Z λcw w m cx=>Aa (Am ?_)
           refine Ab f Z λa f=>Ai f Z Z AC λa f=>Ac f Z λa f=>Aa ?_
           obtain rfl:=sj bL
           exact⟨_,Z,_,_,Z,_,cw,(gt bN (gt b6 cp)),f.k Z,m,cx⟩
         ·refine Aj f Z bP ?_
          refine Ay Z ?_
          obtain rfl:=sj bL
          obtain rfl:=bM _ rfl
          exact⟨_,Z,_,bJ,bN,f.k Z,m,bO⟩
        ·rintro a w ⟨bC,rfl,bD,bE,cy,f,m,cz⟩
         obtain rfl:=sj bu
         exact⟨_,Z,_,bE,cy,f.k Z,m,cz⟩
       ·refine Aj f Z bz ?_
        refine Ao ?_
        obtain rfl:=sj bu
        exact⟨_,Z,_,br,gr,f.k Z,m,bs⟩
      ·rintro a w ⟨bv,rfl,bw,bx,cA,f,m,cB⟩
       refine Af ?_
       refine Ab f Z λa f=>Ab f Z λa f=>Ai f Z Z AC λa f=>Ai f Z Z Br λa f=>Aa ?_
       rcases Ae am with⟨cC,am⟩|⟨cC,am⟩
       ·refine Al f Z cC ?_
        refine Af ?_
        refine Ab f Z λa f=>Ai f Z Z Ar λa f=>Ac f Z λa f=>Aa ?_
        have⟨cD,cE,am⟩:=bind_some am
        refine AD (λa w=>∃cF:LI,cF=cD∧∃(cG:GH) (cH:Itm),GLe bw cG∧Fr a 133 [(0,v0),(1,(iv x1)),(2,(iv x2)),(7,(iv av)),(8,(iv ai))]∧Mem W cG w (cH::H)∧Ow R0 3 cG cH v0 cF) ?_ ?_
        ·refine Ak ?_
         refine AB (λcI a w=>∃cJ:LI,∃cK:Int,(cJ,cK)=cI∧∃(cL:GH) (cM:Itm),GLe bw cL∧Fr a 133 [(0,v0),(1,(iv x1)),(2,(iv x2)),(7,(iv av)),(8,(iv ai)),(10,(iv cK))]∧Mem W cL w (cM::H)∧Ow R0 3 cL cM v0 cJ) cE ⟨_,_,Z,_,bx,gr,f.k Z,m,cB⟩ ?_
         clear cE f m
         rintro cI cN cO cP a w ⟨cJ,cK,rfl,cL,cM,cQ,f,m,cR⟩
         refine Ah (Af ?_)
         refine Ab f Z λa f=>Ab f Z λa f=>Ai f Z Z AT λa f=>Aa ?_
         rcases Ae cO with⟨cS,cO⟩|⟨cS,cO⟩
         ·refine Al f Z cS ?_
          refine Ao ?_
          refine Ah (Ak (Ah (Ah ?_)))
          refine A1 11 AA (by kernel_rfl) m ?_
          refine Ag 0 11 Z f Z λa f=>Ag 1 11 Z f Z λa f=> ?_
          have⟨cT,cU,cO⟩:=bind_some cO
          refine Ax 2 11 0 m cR T63 cU Z f Z Z λcV a cW f=>AF 3 11 0 cR Pl3 cW cU Z f Z λcX a cY f=> ?_
          subst cY
          refine Ag 4 11 Z f Z λa f=>Ag 5 11 Z f Z λa f=>q_p 6 11 Z f (λ_=>AE (f.e Z) (f.e Z) AC) λa f=> ?_
          have⟨cZ,c0,cO⟩:=bind_some cO
          refine Ax 7 11 0 m cR T63 c0 Z f Z Z λc1 a c2 f=>AF 8 11 0 cR Pl3 c2 c0 Z f Z λc3 a c4 f=> ?_
          subst c4
          have⟨c5,c6,cO⟩:=bind_some cO
          refine Bb (i:=9) 11 Z (by kernel_rfl) Z f Z Z Z call103 (λ_ _ w c7 m=>Wk.a m c6) λa f=>q_p 10 11 Z f (λ_=>Be (f.e Z)) λa f=>AJ λc8 w c9 m=> ?_
          have cR:=od1 c9 cR
          refine Aa ?_
          rcases Ae cO with⟨da,cO⟩|⟨da,cO⟩
          ·refine Al f Z da ?_
           refine Ay Z ?_
           obtain rfl:=sj cO
           obtain rfl:=cP _ rfl
           exact⟨_,Z,_,cM,(gt cQ c9),f.k Z,m,cR⟩
          ·refine Aj f Z da ?_
           refine Ao ?_
           refine Bf AA m ?_
           refine p_p 2 Z f (λ_=>AH (f.e Z)) λa f=>p_p 3 Z f (λ_=>AH (f.e Z)) λa f=>p_p 4 Z f (λ_=>AE (f.e Z) (f.e Z) AC) λa f=>Bg 28015 12 (by kernel_rfl) Z ?_
           refine Ag 0 28015 Z f Z λa f=>Ag 1 28015 Z f Z λa f=>Ag 5 28015 Z f Z λa f=>Ag 6 28015 Z f Z λa f=>q_p 7 28015 Z f (λ_=>AE (f.e Z) (f.e Z) AC) λa f=> ?_
           have⟨db,dc,cO⟩:=bind_some cO
           refine Ax 8 28015 0 m cR T63 dc Z f Z Z λdd a de f=>AF 9 28015 0 cR Pl3 de dc Z f Z λdf a dg f=> ?_
           subst dg
           refine Ag 10 28015 Z f Z λa f=>Ag 11 28015 Z f Z λa f=> ?_
           have⟨dh,di,cO⟩:=bind_some cO
           refine Ax 12 28015 0 m cR T63 di Z f Z Z λdj a dk f=>AF 13 28015 0 cR Pl3 dk di Z f Z λdl a dm f=> ?_
           subst dm
           have⟨dn,dp,cO⟩:=bind_some cO
           refine Ax 14 28015 0 m cR T63 dp Z f Z Z λdq a dr f=>AJ λds w dt m=> ?_
           have cR:=od1 dt cR
           refine Au 0 m cR Z sizeOf3 f Z Z dr dp Z Z Z λdu w m dv=> ?_
           have⟨dw,dx,cO⟩:=bind_some cO
           refine AV 0 m dv Z T63 f Z Z Z dx λdy a dz f=>Au 0 m dv Z sizeOf3 f Z Z dz dx Z Z Z λdA w m dB=>Aa (Am ?_)
           refine Ab f Z λa f=>Ai f Z Z Ar λa f=>Ac f Z λa f=>Aa ?_
           obtain rfl:=sj cO
           exact⟨_,Z,_,_,Z,_,dA,(gt cQ (gt c9 dt)),f.k Z,m,dB⟩
         ·refine Aj f Z cS ?_
          refine Ay Z ?_
          obtain rfl:=sj cO
          obtain rfl:=cP _ rfl
          exact⟨_,Z,_,cM,cQ,f.k Z,m,cR⟩
        ·rintro a w ⟨cF,rfl,cG,cH,dC,f,m,dD⟩
         refine Am ?_
         refine Ab f Z λa f=>Ai f Z Z Ar λa f=>Ac f Z λa f=>Aa ?_
         obtain rfl:=sj am
         exact⟨_,Z,_,_,_,Z,_,cH,(gt ao (gt a0 (gt bk (gt cA dC)))),f.k Z,m,dD⟩
       ·refine Aj f Z cC ?_
        refine Ao ?_
        refine Am ?_
        refine Ab f Z λa f=>Ai f Z Z Ar λa f=>Ac f Z λa f=>Aa ?_
        obtain rfl:=sj am
        exact⟨_,Z,_,_,_,Z,_,bx,(gt ao (gt a0 (gt bk cA))),f.k Z,m,cB⟩
  ·refine Aj f Z aq ?_
   refine Ay Z ?_
   obtain rfl:=sj am
   obtain rfl:=an _ rfl
   exact⟨_,Z,_,Z,_,ak,ao,f.weak trivial,m,ap⟩
 ·rintro a w ⟨_,rfl,ac,rfl,ad,ae,dE,f,m,dF⟩
  refine Af ?_
  refine Ac f Z λa f=>Aa ?_
  refine Ap ?_
  obtain rfl:=sj hd
  exact⟨[(.bool false)],f.g Z,f.d,_,[ae],dE,m,_,Z,Z,dF⟩
theorem Wk.t {v0:Value}{it0:Itm}{x0:LI}{x1 x2 x3:Int}(m:Mem W G w (it0::H))(o0:Ow R0 3 G it0 v0 x0){y:Int×(LI)}(hd:D.t x0 x1 x2 x3=some y):
  Calls prog 104 #[v0,(iv x1),(iv x2),(iv x3)] w (Res W G H (λG' Ho v=>∃i0:Itm,Ho=[i0]∧v=(iv y.1)∧Ow R0 3 G' i0 v0 y.2)):=by
 refine As (args:=[v0,(iv x1),(iv x2),(iv x3)]) (N:=84) [.tmp 8] func104 Z Z (lb Z) Z λa f=> ?_
 unfold D.t at hd
 refine Af ?_
 refine Ac f Z λa f=>Aa (Ah ?_)
 refine Bf AA m ?_
 refine p_p 2 Z f (λ_=>AH (f.e Z)) λa f=>p_p 3 Z f (λ_=>AH (f.e Z)) λa f=>Bg 12013 11 (by kernel_rfl) Z ?_
 refine Ag 0 12013 Z f Z λa f=>Ag 1 12013 Z f Z λa f=>Ag 4 12013 Z f Z λa f=>Ag 5 12013 Z f Z λa f=> ?_
 have⟨aa,ab,hd⟩:=bind_some hd
 refine Ax 6 12013 0 m o0 T63 ab Z f Z Z λac a ad f=>AF 7 12013 0 o0 Pl3 ad ab Z f Z λae a af f=> ?_
 subst af
 refine Ag 8 12013 Z f Z λa f=>Ag 9 12013 Z f Z λa f=> ?_
 have⟨ag,ah,hd⟩:=bind_some hd
 refine Ax 10 12013 0 m o0 T63 ah Z f Z Z λai a aj f=>AF 11 12013 0 o0 Pl3 aj ah Z f Z λak a al f=> ?_
 subst al
 have⟨am,an,hd⟩:=bind_some hd
 refine Ax 12 12013 0 m o0 T63 an Z f Z Z λao a ap f=>AJ λaq w ar m=> ?_
 have o0:=od1 ar o0
 refine Au 0 m o0 Z sizeOf3 f Z Z ap an Z Z Z λau w m av=> ?_
 have⟨aw,ax,hd⟩:=bind_some hd
 refine AV 0 m av Z T63 f Z Z Z ax λay a az f=>Au 0 m av Z sizeOf3 f Z Z az ax Z Z Z λaA w m aB=>Aw ?_
 refine Ab f Z λa f=>Ai f Z Z Ar λa f=>Ab f Z λa f=>Ai f Z Z AC λa f=>Ac f Z λa f=>Ac f Z λa f=>Aa (Ah ?_)
 have⟨aC,aD,hd⟩:=bind_some hd
 refine AD (λa w=>∃aE:LI,∃aF:Int,(aE,aF)=aC∧∃(aG:GH) (aH:Itm),GLe aq aG∧Fr a 84 [(9,(iv aF))]∧Mem W aG w (aH::H)∧Ow R0 3 aG aH v0 aE) ?_ ?_
 ·refine Ak ?_
  refine AB (λaI a w=>∃aJ:LI,∃aK:Int,∃aL:Int,(aJ,aK,aL)=aI∧∃(aM:GH) (aN:Itm),GLe aq aM∧Fr a 84 [(0,v0),(1,(iv x1)),(9,(iv aK)),(10,(iv aL))]∧Mem W aM w (aN::H)∧Ow R0 3 aM aN v0 aJ) aD ⟨_,_,_,Z,_,aA,gr,f.k Z,m,aB⟩ ?_
  clear aD f m
  rintro aI aO aP aQ a w ⟨aJ,aK,aL,rfl,aM,aN,aR,f,m,aS⟩
  refine Ak (Ah ?_)
  have⟨aT,aU,aP⟩:=bind_some aP
  refine AD (λa w=>∃aV:Int,aV=aT∧∃(aW:GH),GLe aM aW∧Fr a 84 [(0,v0),(1,(iv x1)),(9,(iv aV)),(10,(iv aL))]∧Mem W aW w (aN::H)) ?_ ?_
  ·refine Ak ?_
   refine AB (λaX a w=>∃aY:Int,aY=aX∧∃(aZ:GH),GLe aM aZ∧Fr a 84 [(0,v0),(1,(iv x1)),(9,(iv aY)),(10,(iv aL))]∧Mem W aZ w (aN::H)) aU ⟨_,Z,_,gr,f.k Z,m⟩ ?_
   clear aU f m
   rintro aX a0 a1 a2 a w ⟨aY,rfl,aZ,a3,f,m⟩
   have aS:=od1 a3 aS
   refine Ah (Ah ?_)
   refine A1 15 AA (by kernel_rfl) m ?_
   refine Ag 0 15 Z f Z λa f=>Ag 1 15 Z f Z λa f=>q_p 2 15 Z f (λ_=>AE (f.e Z) (f.e Z) BW) λa f=>Ag 3 15 Z f Z λa f=> ?_
   have⟨a4,a5,a1⟩:=bind_some a1
   refine Bx (fuel':=0) (listed':= #[true,true,true,true,true,true,true,true,true,true,true,true,true,true,true]) (λa=>Fr a 84 [(0,v0),(1,(iv x1)),(9,(iv aY)),(10,(iv aL)),(29,(iv aY)),(30,(iv aL)),(31,(.bool (decide (aY≤aL)))),(32,(.bool (decide (aY≤aL)))),(43,(.bool a4))]) ?_ ?_
   ·intro a f
    refine AJ λa6 w a7 m=>Aa ?_
    rcases Ae a1 with⟨a8,a1⟩|⟨a8,a1⟩
    ·refine Al f Z a8 ?_
     refine Ao ?_
     refine Ak (Am ?_)
     refine Ab f Z λa f=>Ai f Z Z Ar λa f=>Ac f Z λa f=>Aa ?_
     obtain rfl:=sj a1
     exact⟨_,Z,_,Z,_,(gt a3 a7),f.k Z,m⟩
    ·refine Aj f Z a8 ?_
     refine Ay Z ?_
     obtain rfl:=sj a1
     obtain rfl:=a2 _ rfl
     exact⟨_,Z,_,(gt a3 a7),f.k Z,m⟩
   ·intro a9
    rcases Ae a5 with⟨ba,a5⟩|⟨ba,a5⟩
    ·refine Ag (hw:=wo f ba) 4 15 Z f Z λa f=> ?_
     refine Ag (hw:=wo f ba) 5 15 Z f Z λa f=> ?_
     have⟨bb,bc,a5⟩:=bind_some a5
     refine Ax (hw:=wo f ba) 6 15 0 m aS T63 bc Z f Z Z λbd a be f=>AF (hw:=wo f ba) 7 15 0 aS Pl3 be bc Z f Z λbf a bg f=> ?_
     subst bg
     refine Ag (hw:=wo f ba) 8 15 Z f Z λa f=>Ag (hw:=wo f ba) 9 15 Z f Z λa f=> ?_
     have⟨bh,bi,a5⟩:=bind_some a5
     refine Ax (hw:=wo f ba) 10 15 0 m aS T63 bi Z f Z Z λbj a bk f=>AF (hw:=wo f ba) 11 15 0 aS Pl3 bk bi Z f Z λbl a bm f=> ?_
     subst bm
     have⟨bn,bo,a5⟩:=bind_some a5
     refine Bb (i:=12) 15 Z (by kernel_rfl) Z f (AZ f Z Z Z ba) Z Z call103 (λ_ _ w bp m=>Wk.a m bo) λa f=>q_p (hw:=wo f ba) 13 15 Z f (λ_=>Be (f.e Z)) λa f=>q_p 14 15 Z f (λ_=>AO (f.e Z) ba (f.e Z)) λa f=> ?_
     obtain rfl:=sj a5
     exact a9 _ (f.k Z)
    ·refine An 4 15 Z f ba λa f=> ?_
     refine An 5 15 Z f ba λa f=>An 6 15 Z f ba λa f=>An 7 15 Z f ba λa f=>An 8 15 Z f ba λa f=>An 9 15 Z f ba λa f=>An 10 15 Z f ba λa f=>An 11 15 Z f ba λa f=>An 12 15 Z f ba λa f=>An 13 15 Z f ba λa f=>q_p 14 15 Z f (λ_=>AP (f.e Z) ba (f.e Z)) λa f=> ?_
     obtain rfl:=sj a5
     exact a9 _ (f.k Z)
  ·rintro a w ⟨aV,rfl,aW,bq,f,m⟩
   have aS:=od1 bq aS
   refine Ah ?_
   have⟨br,bs,aP⟩:=bind_some aP
   refine AD (λa w=>∃bt:Int,bt=br∧∃(bu:GH),GLe aW bu∧Fr a 84 [(0,v0),(1,(iv x1)),(9,(iv aV)),(10,(iv bt))]∧Mem W bu w (aN::H)) ?_ ?_
   ·refine Ak ?_
    refine AB (λbv a w=>∃bw:Int,bw=bv∧∃(bx:GH),GLe aW bx∧Fr a 84 [(0,v0),(1,(iv x1)),(9,(iv aV)),(10,(iv bw))]∧Mem W bx w (aN::H)) bs ⟨_,Z,_,gr,f.k Z,m⟩ ?_
    clear bs f m
    rintro bv bz bA bB a w ⟨bw,rfl,bx,bC,f,m⟩
    have aS:=od1 bC aS
    refine Ah (Ah ?_)
    refine A1 14 AA (by kernel_rfl) m ?_
    refine Ag 0 14 Z f Z λa f=>Ag 1 14 Z f Z λa f=>q_p 2 14 Z f (λ_=>AE (f.e Z) (f.e Z) BW) λa f=>Ag 3 14 Z f Z λa f=> ?_
    have⟨bD,bE,bA⟩:=bind_some bA
    refine Bx (fuel':=0) (listed':= #[true,true,true,true,true,true,true,true,true,true,true,true,true,true]) (λa=>Fr a 84 [(0,v0),(1,(iv x1)),(9,(iv aV)),(10,(iv bw)),(46,(iv aV)),(47,(iv bw)),(48,(.bool (decide (aV≤bw)))),(49,(.bool (decide (aV≤bw)))),(59,(.bool bD))]) ?_ ?_
    ·intro a f
     refine AJ λbF w bG m=>Aa ?_
     rcases Ae bA with⟨bH,bA⟩|⟨bH,bA⟩
     ·refine Al f Z bH ?_
      refine Ao ?_
      refine Ak (Am ?_)
      refine Ab f Z λa f=>Ai f Z Z AC λa f=>Ac f Z λa f=>Aa ?_
      obtain rfl:=sj bA
      exact⟨_,Z,_,Z,_,(gt bC bG),f.k Z,m⟩
     ·refine Aj f Z bH ?_
      refine Ay Z ?_
      obtain rfl:=sj bA
      obtain rfl:=bB _ rfl
      exact⟨_,Z,_,(gt bC bG),f.k Z,m⟩
    ·intro bI
     rcases Ae bE with⟨bJ,bE⟩|⟨bJ,bE⟩
     ·refine Ag (hw:=wo f bJ) 4 14 Z f Z λa f=> ?_
      refine Ag (hw:=wo f bJ) 5 14 Z f Z λa f=> ?_
      have⟨bK,bL,bE⟩:=bind_some bE
      refine Ax (hw:=wo f bJ) 6 14 0 m aS T63 bL Z f Z Z λbM a bN f=>AF (hw:=wo f bJ) 7 14 0 aS Pl3 bN bL Z f Z λbO a bP f=> ?_
      subst bP
      refine Ag (hw:=wo f bJ) 8 14 Z f Z λa f=>Ag (hw:=wo f bJ) 9 14 Z f Z λa f=> ?_
      have⟨bQ,bR,bE⟩:=bind_some bE
      refine Ax (hw:=wo f bJ) 10 14 0 m aS T63 bR Z f Z Z λbS a bT f=>AF (hw:=wo f bJ) 11 14 0 aS Pl3 bT bR Z f Z λbU a bV f=> ?_
      subst bV
      have⟨bW,bX,bE⟩:=bind_some bE
      refine Bb (i:=12) 14 Z (by kernel_rfl) Z f (AZ f Z Z Z bJ) Z Z call103 (λ_ _ w bY m=>Wk.a m bX) λa f=>q_p 13 14 Z f (λ_=>AO (f.e Z) bJ (f.e Z)) λa f=> ?_
      obtain rfl:=sj bE
      exact bI _ (f.k Z)
     ·refine An 4 14 Z f bJ λa f=> ?_
      refine An 5 14 Z f bJ λa f=>An 6 14 Z f bJ λa f=>An 7 14 Z f bJ λa f=>An 8 14 Z f bJ λa f=>An 9 14 Z f bJ λa f=>An 10 14 Z f bJ λa f=>An 11 14 Z f bJ λa f=>An 12 14 Z f bJ λa f=>q_p 13 14 Z f (λ_=>AP (f.e Z) bJ (f.e Z)) λa f=> ?_
      obtain rfl:=sj bE
      exact bI _ (f.k Z)
   ·rintro a w ⟨bt,rfl,bu,bZ,f,m⟩
    have aS:=od1 bZ aS
    refine Ah (Af ?_)
    refine Ab f Z λa f=>Ab f Z λa f=>Ai f Z Z BV λa f=>Aa ?_
    rcases Ae aP with⟨b0,aP⟩|⟨b0,aP⟩
    ·refine Al f Z b0 ?_
     refine Ay Z ?_
     obtain rfl:=sj aP
     obtain rfl:=aQ _ rfl
     exact⟨_,_,Z,_,aN,(gt aR (gt bq bZ)),f.k Z,m,aS⟩
    ·refine Aj f Z b0 ?_
     refine Ao ?_
     refine Ah ?_
     refine Bf AA m ?_
     refine p_p 2 Z f (λ_=>AH (f.e Z)) λa f=>p_p 3 Z f (λ_=>AH (f.e Z)) λa f=>Bg 12013 11 (by kernel_rfl) Z ?_
     refine Ag 0 12013 Z f Z λa f=>Ag 1 12013 Z f Z λa f=>Ag 4 12013 Z f Z λa f=>Ag 5 12013 Z f Z λa f=> ?_
     have⟨b1,b2,aP⟩:=bind_some aP
     refine Ax 6 12013 0 m aS T63 b2 Z f Z Z λb3 a b4 f=>AF 7 12013 0 aS Pl3 b4 b2 Z f Z λb5 a b6 f=> ?_
     subst b6
     refine Ag 8 12013 Z f Z λa f=>Ag 9 12013 Z f Z λa f=> ?_
     have⟨b7,b8,aP⟩:=bind_some aP
     refine Ax 10 12013 0 m aS T63 b8 Z f Z Z λb9 a ca f=>AF 11 12013 0 aS Pl3 ca b8 Z f Z λcb a cc f=> ?_
     subst cc
     have⟨cd,ce,aP⟩:=bind_some aP
     refine Ax 12 12013 0 m aS T63 ce Z f Z Z λcf a cg f=>AJ λch w ci m=> ?_
     have aS:=od1 ci aS
     refine Au 0 m aS Z sizeOf3 f Z Z cg ce Z Z Z λcj w m ck=> ?_
     have⟨cl,cm,aP⟩:=bind_some aP
     refine AV 0 m ck Z T63 f Z Z Z cm λcn a co f=>Au 0 m ck Z sizeOf3 f Z Z co cm Z Z Z λcp w m cq=>Aw ?_
     refine Ab f Z λa f=>Ai f Z Z Ar λa f=>Ac f Z λa f=>Aa (Am ?_)
     refine Ab f Z λa f=>Ai f Z Z AC λa f=>Ac f Z λa f=>Aa ?_
     obtain rfl:=sj aP
     exact⟨_,Z,_,_,_,Z,_,cp,(gt aR (gt bq (gt bZ ci))),f.k Z,m,cq⟩
 ·rintro a w ⟨aE,aF,rfl,aG,aH,cr,f,m,cs⟩
  refine Af ?_
  refine Ab f Z λa f=>Ac f Z λa f=>Aa ?_
  refine Ap ?_
  obtain rfl:=sj hd
  exact⟨[(iv aF)],f.g Z,f.d,_,[aH],(gt ar cr),m,_,Z,Z,cs⟩
theorem Wk.r {v0:Value}{it0:Itm}{x0:LI}{x1 x2 x3:Int}(m:Mem W G w (it0::H))(o0:Ow R0 3 G it0 v0 x0){y:Int×Bool×(LI)}(hd:D.r x0 x1 x2 x3=some y):
  Calls prog 105 #[v0,(iv x1),(iv x2),(iv x3)] w (Res W G H (λG' Ho v=>∃i0:Itm,Ho=[i0]∧v= .tuple #[(iv y.1),(.bool y.2.1)]∧Ow R0 3 G' i0 v0 y.2.2)):=by
 refine As (args:=[v0,(iv x1),(iv x2),(iv x3)]) (N:=168) [.tmp 8,.tmp 9] func105 Z Z (lb Z) Z λa f=> ?_
 unfold D.r at hd
 refine Af ?_
 refine Ac f Z λa f=>Ac f Z λa f=>Aa (Ah ?_)
 refine Bf AA m ?_
 refine p_p 2 Z f (λ_=>AH (f.e Z)) λa f=>p_p 3 Z f (λ_=>AH (f.e Z)) λa f=>Bg 12013 11 (by kernel_rfl) Z ?_
 refine Ag 0 12013 Z f Z λa f=>Ag 1 12013 Z f Z λa f=>Ag 4 12013 Z f Z λa f=>Ag 5 12013 Z f Z λa f=> ?_
 have⟨aa,ab,hd⟩:=bind_some hd
 refine Ax 6 12013 0 m o0 T63 ab Z f Z Z λac a ad f=>AF 7 12013 0 o0 Pl3 ad ab Z f Z λae a af f=> ?_
 subst af
 refine Ag 8 12013 Z f Z λa f=>Ag 9 12013 Z f Z λa f=> ?_
 have⟨ag,ah,hd⟩:=bind_some hd
 refine Ax 10 12013 0 m o0 T63 ah Z f Z Z λai a aj f=>AF 11 12013 0 o0 Pl3 aj ah Z f Z λak a al f=> ?_
 subst al
 have⟨am,an,hd⟩:=bind_some hd
 refine Ax 12 12013 0 m o0 T63 an Z f Z Z λao a ap f=>AJ λaq w ar m=> ?_
 have o0:=od1 ar o0
 refine Au 0 m o0 Z sizeOf3 f Z Z ap an Z Z Z λau w m av=> ?_
 have⟨aw,ax,hd⟩:=bind_some hd
 refine AV 0 m av Z T63 f Z Z Z ax λay a az f=>Au 0 m av Z sizeOf3 f Z Z az ax Z Z Z λaA w m aB=>Aw ?_
 refine Ab f Z λa f=>Ai f Z Z Ar λa f=>Ab f Z λa f=>Ai f Z Z AC λa f=>Ac f Z λa f=>Ac f Z λa f=>Aa (Ah ?_)
 have⟨aC,aD,hd⟩:=bind_some hd
 refine AD (λa w=>∃aE:Int,aE=aC∧∃(aF:GH),GLe aq aF∧Fr a 168 [(0,v0),(1,(iv x1)),(10,(iv aE)),(11,(iv (i64.wrap (x2-1))))]∧Mem W aF w (aA::H)) ?_ ?_
 ·refine Ak ?_
  refine AB (λaG a w=>∃aH:Int,aH=aG∧∃(aI:GH),GLe aq aI∧Fr a 168 [(0,v0),(1,(iv x1)),(10,(iv aH)),(11,(iv (i64.wrap (x2-1))))]∧Mem W aI w (aA::H)) aD ⟨_,Z,_,gr,f.k Z,m⟩ ?_
  clear aD f m
  rintro aG aJ aK aL a w ⟨aH,rfl,aI,aM,f,m⟩
  have aB:=od1 aM aB
  refine Ah (Ah ?_)
  refine A1 14 AA (by kernel_rfl) m ?_
  refine Ag 0 14 Z f Z λa f=>Ag 1 14 Z f Z λa f=>q_p 2 14 Z f (λ_=>AE (f.e Z) (f.e Z) BW) λa f=>Ag 3 14 Z f Z λa f=> ?_
  have⟨aN,aO,aK⟩:=bind_some aK
  refine Bx (fuel':=0) (listed':= #[true,true,true,true,true,true,true,true,true,true,true,true,true,true]) (λa=>Fr a 168 [(0,v0),(1,(iv x1)),(10,(iv aH)),(11,(iv (i64.wrap (x2-1)))),(30,(iv aH)),(31,(iv (i64.wrap (x2-1)))),(32,(.bool (decide (aH≤(i64.wrap (x2-1)))))),(33,(.bool (decide (aH≤(i64.wrap (x2-1)))))),(43,(.bool aN))]) ?_ ?_
  ·intro a f
   refine AJ λaP w aQ m=>Aa ?_
   rcases Ae aK with⟨aR,aK⟩|⟨aR,aK⟩
   ·refine Al f Z aR ?_
    refine Ao ?_
    refine Ak (Am ?_)
    refine Ab f Z λa f=>Ai f Z Z Ar λa f=>Ac f Z λa f=>Aa ?_
    obtain rfl:=sj aK
    exact⟨_,Z,_,Z,_,(gt aM aQ),f.k Z,m⟩
   ·refine Aj f Z aR ?_
    refine Ay Z ?_
    obtain rfl:=sj aK
    obtain rfl:=aL _ rfl
    exact⟨_,Z,_,(gt aM aQ),f.k Z,m⟩
  ·intro aS
   rcases Ae aO with⟨aT,aO⟩|⟨aT,aO⟩
   ·refine Ag (hw:=wo f aT) 4 14 Z f Z λa f=> ?_
    refine Ag (hw:=wo f aT) 5 14 Z f Z λa f=> ?_
    have⟨aU,aV,aO⟩:=bind_some aO
    refine Ax (hw:=wo f aT) 6 14 0 m aB T63 aV Z f Z Z λaW a aX f=>AF (hw:=wo f aT) 7 14 0 aB Pl3 aX aV Z f Z λaY a aZ f=> ?_
    subst aZ
    refine Ag (hw:=wo f aT) 8 14 Z f Z λa f=>Ag (hw:=wo f aT) 9 14 Z f Z λa f=> ?_
    have⟨a0,a1,aO⟩:=bind_some aO
    refine Ax (hw:=wo f aT) 10 14 0 m aB T63 a1 Z f Z Z λa2 a a3 f=>AF (hw:=wo f aT) 11 14 0 aB Pl3 a3 a1 Z f Z λa4 a a5 f=> ?_
    subst a5
    have⟨a6,a7,aO⟩:=bind_some aO
    refine Bb (i:=12) 14 Z (by kernel_rfl) Z f (AZ f Z Z Z aT) Z Z call103 (λ_ _ w a8 m=>Wk.a m a7) λa f=>q_p 13 14 Z f (λ_=>AO (f.e Z) aT (f.e Z)) λa f=> ?_
    obtain rfl:=sj aO
    exact aS _ (f.k Z)
   ·refine An 4 14 Z f aT λa f=> ?_
    refine An 5 14 Z f aT λa f=>An 6 14 Z f aT λa f=>An 7 14 Z f aT λa f=>An 8 14 Z f aT λa f=>An 9 14 Z f aT λa f=>An 10 14 Z f aT λa f=>An 11 14 Z f aT λa f=>An 12 14 Z f aT λa f=>q_p 13 14 Z f (λ_=>AP (f.e Z) aT (f.e Z)) λa f=> ?_
    obtain rfl:=sj aO
    exact aS _ (f.k Z)
 ·rintro a w ⟨aE,rfl,aF,a9,f,m⟩
  have aB:=od1 a9 aB
  refine Ah ?_
  have⟨ba,bb,hd⟩:=bind_some hd
  refine AD (λa w=>∃bc:Int,bc=ba∧∃(bd:GH),GLe aF bd∧Fr a 168 [(0,v0),(1,(iv x1)),(10,(iv aE)),(11,(iv bc))]∧Mem W bd w (aA::H)) ?_ ?_
  ·refine Ak ?_
   refine AB (λbe a w=>∃bf:Int,bf=be∧∃(bg:GH),GLe aF bg∧Fr a 168 [(0,v0),(1,(iv x1)),(10,(iv aE)),(11,(iv bf))]∧Mem W bg w (aA::H)) bb ⟨_,Z,_,gr,f.k Z,m⟩ ?_
   clear bb f m
   rintro be bh bi bj a w ⟨bf,rfl,bg,bk,f,m⟩
   have aB:=od1 bk aB
   refine Ah (Ah ?_)
   refine A1 15 AA (by kernel_rfl) m ?_
   refine Ag 0 15 Z f Z λa f=>Ag 1 15 Z f Z λa f=>q_p 2 15 Z f (λ_=>AE (f.e Z) (f.e Z) BW) λa f=>Ag 3 15 Z f Z λa f=> ?_
   have⟨bl,bm,bi⟩:=bind_some bi
   refine Bx (fuel':=0) (listed':= #[true,true,true,true,true,true,true,true,true,true,true,true,true,true,true]) (λa=>Fr a 168 [(0,v0),(1,(iv x1)),(10,(iv aE)),(11,(iv bf)),(46,(iv aE)),(47,(iv bf)),(48,(.bool (decide (aE≤bf)))),(49,(.bool (decide (aE≤bf)))),(60,(.bool bl))]) ?_ ?_
   ·intro a f
    refine AJ λbn w bo m=>Aa ?_
    rcases Ae bi with⟨bp,bi⟩|⟨bp,bi⟩
    ·refine Al f Z bp ?_
     refine Ao ?_
     refine Ak (Am ?_)
     refine Ab f Z λa f=>Ai f Z Z AC λa f=>Ac f Z λa f=>Aa ?_
     obtain rfl:=sj bi
     exact⟨_,Z,_,Z,_,(gt bk bo),f.k Z,m⟩
    ·refine Aj f Z bp ?_
     refine Ay Z ?_
     obtain rfl:=sj bi
     obtain rfl:=bj _ rfl
     exact⟨_,Z,_,(gt bk bo),f.k Z,m⟩
   ·intro bq
    rcases Ae bm with⟨br,bm⟩|⟨br,bm⟩
    ·refine Ag (hw:=wo f br) 4 15 Z f Z λa f=> ?_
     refine Ag (hw:=wo f br) 5 15 Z f Z λa f=> ?_
     have⟨bs,bt,bm⟩:=bind_some bm
     refine Ax (hw:=wo f br) 6 15 0 m aB T63 bt Z f Z Z λbu a bv f=>AF (hw:=wo f br) 7 15 0 aB Pl3 bv bt Z f Z λbw a bx f=> ?_
     subst bx
     refine Ag (hw:=wo f br) 8 15 Z f Z λa f=>Ag (hw:=wo f br) 9 15 Z f Z λa f=> ?_
     have⟨bz,bA,bm⟩:=bind_some bm
     refine Ax (hw:=wo f br) 10 15 0 m aB T63 bA Z f Z Z λbB a bC f=>AF (hw:=wo f br) 11 15 0 aB Pl3 bC bA Z f Z λbD a bE f=> ?_
     subst bE
     have⟨bF,bG,bm⟩:=bind_some bm
     refine Bb (i:=12) 15 Z (by kernel_rfl) Z f (AZ f Z Z Z br) Z Z call103 (λ_ _ w bH m=>Wk.a m bG) λa f=>q_p (hw:=wo f br) 13 15 Z f (λ_=>Be (f.e Z)) λa f=>q_p 14 15 Z f (λ_=>AO (f.e Z) br (f.e Z)) λa f=> ?_
     obtain rfl:=sj bm
     exact bq _ (f.k Z)
    ·refine An 4 15 Z f br λa f=> ?_
     refine An 5 15 Z f br λa f=>An 6 15 Z f br λa f=>An 7 15 Z f br λa f=>An 8 15 Z f br λa f=>An 9 15 Z f br λa f=>An 10 15 Z f br λa f=>An 11 15 Z f br λa f=>An 12 15 Z f br λa f=>An 13 15 Z f br λa f=>q_p 14 15 Z f (λ_=>AP (f.e Z) br (f.e Z)) λa f=> ?_
     obtain rfl:=sj bm
     exact bq _ (f.k Z)
  ·rintro a w ⟨bc,rfl,bd,bI,f,m⟩
   have aB:=od1 bI aB
   refine Ah (Af ?_)
   refine Ab f Z λa f=>Ab f Z λa f=>Ai f Z Z BV λa f=>Aa ?_
   rcases Ae hd with⟨bJ,hd⟩|⟨bJ,hd⟩
   ·refine Al f Z bJ ?_
    refine Ah ?_
    refine Bf AA m ?_
    refine p_p 2 Z f (λ_=>AH (f.e Z)) λa f=>p_p 3 Z f (λ_=>AH (f.e Z)) λa f=>Bg 12013 11 (by kernel_rfl) Z ?_
    refine Ag 0 12013 Z f Z λa f=>Ag 1 12013 Z f Z λa f=>Ag 4 12013 Z f Z λa f=>Ag 5 12013 Z f Z λa f=> ?_
    have⟨bK,bL,hd⟩:=bind_some hd
    refine Ax 6 12013 0 m aB T63 bL Z f Z Z λbM a bN f=>AF 7 12013 0 aB Pl3 bN bL Z f Z λbO a bP f=> ?_
    subst bP
    refine Ag 8 12013 Z f Z λa f=>Ag 9 12013 Z f Z λa f=> ?_
    have⟨bQ,bR,hd⟩:=bind_some hd
    refine Ax 10 12013 0 m aB T63 bR Z f Z Z λbS a bT f=>AF 11 12013 0 aB Pl3 bT bR Z f Z λbU a bV f=> ?_
    subst bV
    have⟨bW,bX,hd⟩:=bind_some hd
    refine Ax 12 12013 0 m aB T63 bX Z f Z Z λbY a bZ f=>AJ λb0 w b1 m=> ?_
    have aB:=od1 b1 aB
    refine Au 0 m aB Z sizeOf3 f Z Z bZ bX Z Z Z λb2 w m b3=> ?_
    have⟨b4,b5,hd⟩:=bind_some hd
    refine AV 0 m b3 Z T63 f Z Z Z b5 λb6 a b7 f=>Au 0 m b3 Z sizeOf3 f Z Z b7 b5 Z Z Z λb8 w m b9=>Aw ?_
    refine Ab f Z λa f=>Ac f Z λa f=>Ac f Z λa f=>Aa ?_
    refine Ap ?_
    obtain rfl:=sj hd
    exact⟨[(iv bc),(.bool true)],⟨f.get _ _ Z,f.get _ _ Z,trivial⟩,f.d,_,[b8],(gt ar (gt a9 (gt bI b1))),m,_,Z,Z,b9⟩
   ·refine Aj f Z bJ ?_
    refine Ao ?_
    refine Ah ?_
    refine Bf AA m ?_
    refine p_p 2 Z f (λ_=>AH (f.e Z)) λa f=>p_p 3 Z f (λ_=>AH (f.e Z)) λa f=>Bg 12013 11 (by kernel_rfl) Z ?_
    refine Ag 0 12013 Z f Z λa f=>Ag 1 12013 Z f Z λa f=>Ag 4 12013 Z f Z λa f=>Ag 5 12013 Z f Z λa f=> ?_
    have⟨ca,cb,hd⟩:=bind_some hd
    refine Ax 6 12013 0 m aB T63 cb Z f Z Z λcc a cd f=>AF 7 12013 0 aB Pl3 cd cb Z f Z λce a cf f=> ?_
    subst cf
    refine Ag 8 12013 Z f Z λa f=>Ag 9 12013 Z f Z λa f=> ?_
    have⟨cg,ch,hd⟩:=bind_some hd
    refine Ax 10 12013 0 m aB T63 ch Z f Z Z λci a cj f=>AF 11 12013 0 aB Pl3 cj ch Z f Z λck a cl f=> ?_
    subst cl
    have⟨cm,cn,hd⟩:=bind_some hd
    refine Ax 12 12013 0 m aB T63 cn Z f Z Z λco a cp f=>AJ λcq w cr m=> ?_
    have aB:=od1 cr aB
    refine Au 0 m aB Z sizeOf3 f Z Z cp cn Z Z Z λcs w m ct=> ?_
    have⟨cu,cv,hd⟩:=bind_some hd
    refine AV 0 m ct Z T63 f Z Z Z cv λcw a cx f=>Au 0 m ct Z sizeOf3 f Z Z cx cv Z Z Z λcy w m cz=>Aw ?_
    refine Ab f Z λa f=>Ai f Z Z Ar λa f=>Ac f Z λa f=>Aw ?_
    refine Ab f Z λa f=>Ai f Z Z AC λa f=>Ac f Z λa f=>Aa (Ah ?_)
    have⟨cA,cB,hd⟩:=bind_some hd
    refine AD (λa w=>∃cC:LI,∃cD:Int,(cC,cD)=cA∧∃(cE:GH) (cF:Itm),GLe cq cE∧Fr a 168 [(0,v0),(1,(iv x1)),(11,(iv cD))]∧Mem W cE w (cF::H)∧Ow R0 3 cE cF v0 cC) ?_ ?_
    ·refine Ak ?_
     refine AB (λcG a w=>∃cH:LI,∃cI:Int,∃cJ:Int,(cH,cI,cJ)=cG∧∃(cK:GH) (cL:Itm),GLe cq cK∧Fr a 168 [(0,v0),(1,(iv x1)),(10,(iv cI)),(11,(iv cJ))]∧Mem W cK w (cL::H)∧Ow R0 3 cK cL v0 cH) cB ⟨_,_,_,Z,_,cy,gr,f.k Z,m,cz⟩ ?_
     clear cB f m
     rintro cG cM cN cO a w ⟨cH,cI,cJ,rfl,cK,cL,cP,f,m,cQ⟩
     refine Ak (Ah ?_)
     have⟨cR,cS,cN⟩:=bind_some cN
     refine AD (λa w=>∃cT:Int,cT=cR∧∃(cU:GH),GLe cK cU∧Fr a 168 [(0,v0),(1,(iv x1)),(10,(iv cT)),(11,(iv cJ))]∧Mem W cU w (cL::H)) ?_ ?_
     ·refine Ak ?_
      refine AB (λcV a w=>∃cW:Int,cW=cV∧∃(cX:GH),GLe cK cX∧Fr a 168 [(0,v0),(1,(iv x1)),(10,(iv cW)),(11,(iv cJ))]∧Mem W cX w (cL::H)) cS ⟨_,Z,_,gr,f.k Z,m⟩ ?_
      clear cS f m
      rintro cV cY cZ c0 a w ⟨cW,rfl,cX,c1,f,m⟩
      have cQ:=od1 c1 cQ
      refine Ah (Ah ?_)
      refine A1 14 AA (by kernel_rfl) m ?_
      refine Ag 0 14 Z f Z λa f=>Ag 1 14 Z f Z λa f=>q_p 2 14 Z f (λ_=>AE (f.e Z) (f.e Z) BW) λa f=>Ag 3 14 Z f Z λa f=> ?_
      have⟨c2,c3,cZ⟩:=bind_some cZ
      refine Bx (fuel':=0) (listed':= #[true,true,true,true,true,true,true,true,true,true,true,true,true,true]) (λa=>Fr a 168 [(0,v0),(1,(iv x1)),(10,(iv cW)),(11,(iv cJ)),(99,(iv cW)),(100,(iv cJ)),(101,(.bool (decide (cW≤cJ)))),(102,(.bool (decide (cW≤cJ)))),(112,(.bool c2))]) ?_ ?_
      ·intro a f
       refine AJ λc4 w c5 m=>Aa ?_
       rcases Ae cZ with⟨c6,cZ⟩|⟨c6,cZ⟩
       ·refine Al f Z c6 ?_
        refine Ao ?_
        refine Ak (Am ?_)
        refine Ab f Z λa f=>Ai f Z Z Ar λa f=>Ac f Z λa f=>Aa ?_
        obtain rfl:=sj cZ
        exact⟨_,Z,_,Z,_,(gt c1 c5),f.k Z,m⟩
       ·refine Aj f Z c6 ?_
        refine Ay Z ?_
        obtain rfl:=sj cZ
        obtain rfl:=c0 _ rfl
        exact⟨_,Z,_,(gt c1 c5),f.k Z,m⟩
      ·intro c7
       rcases Ae c3 with⟨c8,c3⟩|⟨c8,c3⟩
       ·refine Ag (hw:=wo f c8) 4 14 Z f Z λa f=> ?_
        refine Ag (hw:=wo f c8) 5 14 Z f Z λa f=> ?_
        have⟨c9,da,c3⟩:=bind_some c3
        refine Ax (hw:=wo f c8) 6 14 0 m cQ T63 da Z f Z Z λdb a dc f=>AF (hw:=wo f c8) 7 14 0 cQ Pl3 dc da Z f Z λdd a de f=> ?_
        subst de
        refine Ag (hw:=wo f c8) 8 14 Z f Z λa f=>Ag (hw:=wo f c8) 9 14 Z f Z λa f=> ?_
        have⟨df,dg,c3⟩:=bind_some c3
        refine Ax (hw:=wo f c8) 10 14 0 m cQ T63 dg Z f Z Z λdh a di f=>AF (hw:=wo f c8) 11 14 0 cQ Pl3 di dg Z f Z λdj a dk f=> ?_
        subst dk
        have⟨dl,dm,c3⟩:=bind_some c3
        refine Bb (i:=12) 14 Z (by kernel_rfl) Z f (AZ f Z Z Z c8) Z Z call103 (λ_ _ w dn m=>Wk.a m dm) λa f=>q_p 13 14 Z f (λ_=>AO (f.e Z) c8 (f.e Z)) λa f=> ?_
        obtain rfl:=sj c3
        exact c7 _ (f.k Z)
       ·refine An 4 14 Z f c8 λa f=> ?_
        refine An 5 14 Z f c8 λa f=>An 6 14 Z f c8 λa f=>An 7 14 Z f c8 λa f=>An 8 14 Z f c8 λa f=>An 9 14 Z f c8 λa f=>An 10 14 Z f c8 λa f=>An 11 14 Z f c8 λa f=>An 12 14 Z f c8 λa f=>q_p 13 14 Z f (λ_=>AP (f.e Z) c8 (f.e Z)) λa f=> ?_
        obtain rfl:=sj c3
        exact c7 _ (f.k Z)
     ·rintro a w ⟨cT,rfl,cU,dp,f,m⟩
      have cQ:=od1 dp cQ
      refine Ah ?_
      have⟨dq,dr,cN⟩:=bind_some cN
      refine AD (λa w=>∃ds:Int,ds=dq∧∃(dt:GH),GLe cU dt∧Fr a 168 [(0,v0),(1,(iv x1)),(10,(iv cT)),(11,(iv ds))]∧Mem W dt w (cL::H)) ?_ ?_
      ·refine Ak ?_
       refine AB (λdu a w=>∃dv:Int,dv=du∧∃(dw:GH),GLe cU dw∧Fr a 168 [(0,v0),(1,(iv x1)),(10,(iv cT)),(11,(iv dv))]∧Mem W dw w (cL::H)) dr ⟨_,Z,_,gr,f.k Z,m⟩ ?_
       clear dr f m
       rintro du dx dy dz a w ⟨dv,rfl,dw,dA,f,m⟩
       have cQ:=od1 dA cQ
       refine Ah (Ah ?_)
       refine A1 15 AA (by kernel_rfl) m ?_
       refine Ag 0 15 Z f Z λa f=>Ag 1 15 Z f Z λa f=>q_p 2 15 Z f (λ_=>AE (f.e Z) (f.e Z) BW) λa f=>Ag 3 15 Z f Z λa f=> ?_
       have⟨dB,dC,dy⟩:=bind_some dy
       refine Bx (fuel':=0) (listed':= #[true,true,true,true,true,true,true,true,true,true,true,true,true,true,true]) (λa=>Fr a 168 [(0,v0),(1,(iv x1)),(10,(iv cT)),(11,(iv dv)),(115,(iv cT)),(116,(iv dv)),(117,(.bool (decide (cT≤dv)))),(118,(.bool (decide (cT≤dv)))),(129,(.bool dB))]) ?_ ?_
       ·intro a f
        refine AJ λdD w dE m=>Aa ?_
        rcases Ae dy with⟨dF,dy⟩|⟨dF,dy⟩
        ·refine Al f Z dF ?_
         refine Ao ?_
         refine Ak (Am ?_)
         refine Ab f Z λa f=>Ai f Z Z AC λa f=>Ac f Z λa f=>Aa ?_
         obtain rfl:=sj dy
         exact⟨_,Z,_,Z,_,(gt dA dE),f.k Z,m⟩
        ·refine Aj f Z dF ?_
         refine Ay Z ?_
         obtain rfl:=sj dy
         obtain rfl:=dz _ rfl
         exact⟨_,Z,_,(gt dA dE),f.k Z,m⟩
       ·intro dG
        rcases Ae dC with⟨dH,dC⟩|⟨dH,dC⟩
        ·refine Ag (hw:=wo f dH) 4 15 Z f Z λa f=> ?_
         refine Ag (hw:=wo f dH) 5 15 Z f Z λa f=> ?_
         have⟨dI,dJ,dC⟩:=bind_some dC
         refine Ax (hw:=wo f dH) 6 15 0 m cQ T63 dJ Z f Z Z λdK a dL f=>AF (hw:=wo f dH) 7 15 0 cQ Pl3 dL dJ Z f Z λdM a dN f=> ?_
         subst dN
         refine Ag (hw:=wo f dH) 8 15 Z f Z λa f=>Ag (hw:=wo f dH) 9 15 Z f Z λa f=> ?_
         have⟨dO,dP,dC⟩:=bind_some dC
         refine Ax (hw:=wo f dH) 10 15 0 m cQ T63 dP Z f Z Z λdQ a dR f=>AF (hw:=wo f dH) 11 15 0 cQ Pl3 dR dP Z f Z λdS a dT f=> ?_
         subst dT
         have⟨dU,dV,dC⟩:=bind_some dC
         refine Bb (i:=12) 15 Z (by kernel_rfl) Z f (AZ f Z Z Z dH) Z Z call103 (λ_ _ w dW m=>Wk.a m dV) λa f=>q_p (hw:=wo f dH) 13 15 Z f (λ_=>Be (f.e Z)) λa f=>q_p 14 15 Z f (λ_=>AO (f.e Z) dH (f.e Z)) λa f=> ?_
         obtain rfl:=sj dC
         exact dG _ (f.k Z)
        ·refine An 4 15 Z f dH λa f=> ?_
         refine An 5 15 Z f dH λa f=>An 6 15 Z f dH λa f=>An 7 15 Z f dH λa f=>An 8 15 Z f dH λa f=>An 9 15 Z f dH λa f=>An 10 15 Z f dH λa f=>An 11 15 Z f dH λa f=>An 12 15 Z f dH λa f=>An 13 15 Z f dH λa f=>q_p 14 15 Z f (λ_=>AP (f.e Z) dH (f.e Z)) λa f=> ?_
         obtain rfl:=sj dC
         exact dG _ (f.k Z)
      ·rintro a w ⟨ds,rfl,dt,dX,f,m⟩
       have cQ:=od1 dX cQ
       refine Ah (Af ?_)
       refine Ab f Z λa f=>Ab f Z λa f=>Ai f Z Z BV λa f=>Aa ?_
       rcases Ae cN with⟨dY,cN⟩|⟨dY,cN⟩
       ·refine Al f Z dY ?_
        refine Ay Z ?_
        obtain rfl:=sj cN
        obtain rfl:=cO _ rfl
        exact⟨_,_,Z,_,cL,(gt cP (gt dp dX)),f.k Z,m,cQ⟩
       ·refine Aj f Z dY ?_
        refine Ao ?_
        refine Ah ?_
        refine Bf AA m ?_
        refine p_p 2 Z f (λ_=>AH (f.e Z)) λa f=>p_p 3 Z f (λ_=>AH (f.e Z)) λa f=>Bg 12013 11 (by kernel_rfl) Z ?_
        refine Ag 0 12013 Z f Z λa f=>Ag 1 12013 Z f Z λa f=>Ag 4 12013 Z f Z λa f=>Ag 5 12013 Z f Z λa f=> ?_
        have⟨dZ,d0,cN⟩:=bind_some cN
        refine Ax 6 12013 0 m cQ T63 d0 Z f Z Z λd1 a d2 f=>AF 7 12013 0 cQ Pl3 d2 d0 Z f Z λd3 a d4 f=> ?_
        subst d4
        refine Ag 8 12013 Z f Z λa f=>Ag 9 12013 Z f Z λa f=> ?_
        have⟨d5,d6,cN⟩:=bind_some cN
        refine Ax 10 12013 0 m cQ T63 d6 Z f Z Z λd7 a d8 f=>AF 11 12013 0 cQ Pl3 d8 d6 Z f Z λd9 a ea f=> ?_
        subst ea
        have⟨eb,ec,cN⟩:=bind_some cN
        refine Ax 12 12013 0 m cQ T63 ec Z f Z Z λed a ee f=>AJ λef w eg m=> ?_
        have cQ:=od1 eg cQ
        refine Au 0 m cQ Z sizeOf3 f Z Z ee ec Z Z Z λeh w m ei=> ?_
        have⟨ej,ek,cN⟩:=bind_some cN
        refine AV 0 m ei Z T63 f Z Z Z ek λel a em f=>Au 0 m ei Z sizeOf3 f Z Z em ek Z Z Z λen w m eo=>Aw ?_
        refine Ab f Z λa f=>Ai f Z Z Ar λa f=>Ac f Z λa f=>Aa (Am ?_)
        refine Ab f Z λa f=>Ai f Z Z AC λa f=>Ac f Z λa f=>Aa ?_
        obtain rfl:=sj cN
        exact⟨_,Z,_,_,_,Z,_,en,(gt cP (gt dp (gt dX eg))),f.k Z,m,eo⟩
    ·rintro a w ⟨cC,cD,rfl,cE,cF,ep,f,m,eq⟩
     refine Ah ?_
     refine Bf AA m ?_
     refine p_p 2 Z f (λ_=>AH (f.e Z)) λa f=>p_p 3 Z f (λ_=>AH (f.e Z)) λa f=>Bg 12013 11 (by kernel_rfl) Z ?_
     refine Ag 0 12013 Z f Z λa f=>Ag 1 12013 Z f Z λa f=>Ag 4 12013 Z f Z λa f=>Ag 5 12013 Z f Z λa f=> ?_
     have⟨er,es,hd⟩:=bind_some hd
     refine Ax 6 12013 0 m eq T63 es Z f Z Z λet a eu f=>AF 7 12013 0 eq Pl3 eu es Z f Z λev a ew f=> ?_
     subst ew
     refine Ag 8 12013 Z f Z λa f=>Ag 9 12013 Z f Z λa f=> ?_
     have⟨ex,ey,hd⟩:=bind_some hd
     refine Ax 10 12013 0 m eq T63 ey Z f Z Z λez a eA f=>AF 11 12013 0 eq Pl3 eA ey Z f Z λeB a eC f=> ?_
     subst eC
     have⟨eD,eE,hd⟩:=bind_some hd
     refine Ax 12 12013 0 m eq T63 eE Z f Z Z λeF a eG f=>AJ λeH w eI m=> ?_
     have eq:=od1 eI eq
     refine Au 0 m eq Z sizeOf3 f Z Z eG eE Z Z Z λeJ w m eK=> ?_
     have⟨eL,eM,hd⟩:=bind_some hd
     refine AV 0 m eK Z T63 f Z Z Z eM λeN a eO f=>Au 0 m eK Z sizeOf3 f Z Z eO eM Z Z Z λeP w m eQ=>Aw ?_
     refine Ab f Z λa f=>Ac f Z λa f=>Ac f Z λa f=>Aa ?_
     refine Ap ?_
     obtain rfl:=sj hd
     exact⟨[(iv cD),(.bool false)],⟨f.get _ _ Z,f.get _ _ Z,trivial⟩,f.d,_,[eP],(gt ar (gt a9 (gt bI (gt cr (gt ep eI))))),m,_,Z,Z,eQ⟩
theorem Wk.V {W:World}(n:Nat):∀{w:World} {G:GH} {H:List Itm} {v0:Value} {it0:Itm} {x0:LI} {x1 x2 x3:Int} (m:Mem W G w (it0::H)) (o0:Ow R0 3 G it0 v0 x0) {y:(LI)} (hd:D.V n x0 x1 x2 x3=some y),
  Calls prog 85 #[v0,(iv x1),(iv x2),(iv x3)] w (Res W G H (λG' Ho _=>∃i0:Itm,Ho=[i0]∧Ow R0 3 G' i0 v0 y)):=by
 induction n with
 |zero=>intros;rename_i hd;simp[D.V] at hd
 |succ fuel ih=>
  intro w G H v0 it0 x0 x1 x2 x3 m o0 y hd
  refine As (args:=[v0,(iv x1),(iv x2),(iv x3)]) (N:=134) [] func85 Z Z (lb Z) Z λa f=> ?_
  unfold D.V at hd
  refine Af ?_
  refine Ac f Z λa f=>Aw ?_
  refine Ac f Z λa f=>Aa ?_
  have⟨aa,ab,hd⟩:=bind_some hd
  refine Ak ?_
  refine AB (λac a w=>∃ad:LI,∃ae:Int,∃af:Int,∃ag:Int,∃ah:Bool,∃ai:Bool,(ad,ae,af,ag,ah,ai)=ac∧∃(aj:GH) (ak:Itm),GLe G aj∧Fr a 134 [(0,v0),(1,(iv ae)),(2,(iv af)),(3,(iv ag)),(8,(.bool ah)),(9,(.bool ai))]∧Mem W aj w (ak::H)∧Ow R0 3 aj ak v0 ad) ab ⟨_,_,_,_,_,_,Z,_,it0,gr,f.k Z,m,o0⟩ ?_
  clear ab f m
  rintro ac al am an a w ⟨ad,ae,af,ag,ah,ai,rfl,aj,ak,ao,f,m,ap⟩
  refine Ak (Af ?_)
  refine Ab f Z λa f=>Ab f Z λa f=>Ai f Z Z AC λa f=>Ac f Z λa f=>Aa (Ah (Af ?_))
  refine Ab f Z λa f=>Ai f Z Z BW λa f=>Aa ?_
  rcases Ae am with⟨aq,am⟩|⟨aq,am⟩
  ·refine Al f Z aq ?_
   refine Af ?_
   refine Ab f Z λa f=>Ab f Z λa f=>Ab f Z λa f=> ?_
   have⟨ar,au,am⟩:=bind_some am
   refine AM f Z call97 (Wk.q m ap au) λav aw ax w ay m az a f=> ?_
   obtain⟨aA,rfl,aB⟩:=az
   refine Aa ?_
   refine Ap ?_
   obtain rfl:=sj am
   obtain rfl:=an _ rfl
   obtain rfl:=sj hd
   exact⟨[],trivial,f.d,_,[aA],(gt ao ay),m,_,Z,aB⟩
  ·refine Aj f Z aq ?_
   refine Ao ?_
   refine Ah (Af ?_)
   refine Ab f Z λa f=>Ai f Z Z Bv λa f=>Aa ?_
   rcases Ae am with⟨aC,am⟩|⟨aC,am⟩
   ·refine Al f Z aC ?_
    refine Af ?_
    refine Ab f Z λa f=>Ab f Z λa f=>Ab f Z λa f=> ?_
    have⟨aD,aE,am⟩:=bind_some am
    refine AM f Z call98 (Wk.p m ap aE) λaF aG aH w aI m aJ a f=> ?_
    obtain⟨aK,rfl,aL⟩:=aJ
    refine Aa ?_
    refine Ap ?_
    obtain rfl:=sj am
    obtain rfl:=an _ rfl
    obtain rfl:=sj hd
    exact⟨[],trivial,f.d,_,[aK],(gt ao aI),m,_,Z,aL⟩
   ·refine Aj f Z aC ?_
    refine Ao ?_
    refine Ah (Af ?_)
    refine Ab f Z λa f=>l_o f (Be (f.e Z)) λa f=>Aa ?_
    have⟨aM,aN,am⟩:=bind_some am
    refine AD (λa w=>∃aO:LI,∃aP:Int,(aO,aP)=aM∧∃(aQ:GH) (aR:Itm),GLe aj aQ∧Fr a 134 [(0,v0),(1,(iv ae)),(2,(iv af)),(3,(iv aP)),(8,(.bool ah)),(9,(.bool ai)),(10,(iv (i64.wrap (af-ae))))]∧Mem W aQ w (aR::H)∧Ow R0 3 aQ aR v0 aO) ?_ ?_
    ·rcases Ae aN with⟨aS,aN⟩|⟨aS,aN⟩
     ·refine Al f Z aS ?_
      refine Af ?_
      refine Ab f Z λa f=>Ab f Z λa f=>Ab f Z λa f=> ?_
      have⟨aT,aU,aN⟩:=bind_some aN
      refine AM f Z call99 (Wk.o m ap aU) λaV aW aX w aY m aZ a f=> ?_
      obtain⟨a0,rfl,a1⟩:=aZ
      refine Aa (Am ?_)
      refine Ab f Z λa f=>Ai f Z Z AC λa f=>Ac f Z λa f=>Aa ?_
      obtain rfl:=sj aN
      exact⟨_,_,Z,_,a0,aY,f.k Z,m,a1⟩
     ·refine Aj f Z aS ?_
      refine Ao ?_
      obtain rfl:=sj aN
      exact⟨_,_,Z,_,ak,gr,f.k Z,m,ap⟩
    ·rintro a w ⟨aO,aP,rfl,aQ,aR,a2,f,m,a3⟩
     refine Af ?_
     refine Ab f Z λa f=>Ab f Z λa f=>Ab f Z λa f=> ?_
     have⟨a4,a5,am⟩:=bind_some am
     refine AM f Z call100 (Wk.x m a3 a5) λa6 a7 a8 w a9 m ba a f=> ?_
     obtain⟨bb,rfl,rfl,bc⟩:=ba
     refine Ab f Z λa f=>l_o f (A6 (f.e Z) Z) λa f=>l_o f (A6 (f.e Z) Z) λa f=>Ac f Z λa f=>Ac f Z λa f=>Aa (Ah (Af ?_))
     refine Ab f Z λa f=>Ai f Z Z Bv λa f=>Aa ?_
     have⟨bd,be,am⟩:=bind_some am
     refine AD (λa w=>∃bf:LI,∃bg:Int,∃bh:Int,(bf,bg,bh)=bd∧∃(bi:GH) (bj:Itm),GLe a7 bi∧Fr a 134 [(0,v0),(1,(iv ae)),(2,(iv af)),(3,(iv aP)),(8,(.bool ah)),(9,(.bool ai)),(10,(iv (i64.wrap (af-ae)))),(11,(iv bg)),(12,(iv bh))]∧Mem W bi w (bj::H)∧Ow R0 3 bi bj v0 bf) ?_ ?_
     ·rcases Ae be with⟨bk,be⟩|⟨bk,be⟩
      ·refine Al f Z bk ?_
       refine Af ?_
       refine Ab f Z λa f=>Ab f Z λa f=>Ab f Z λa f=> ?_
       have⟨bl,bm,be⟩:=bind_some be
       refine AM f Z call101 (Wk.n m bc bm) λbn bo bp w bq m br a f=> ?_
       obtain⟨bs,rfl,bt⟩:=br
       refine Aw ?_
       refine Ab f Z λa f=>Ai f Z Z AC λa f=>Ab f Z λa f=>Ab f Z λa f=>Ai f Z Z AC λa f=>Ai f Z Z AC λa f=>Ac f Z λa f=>Aa (Am ?_)
       refine Ac f Z λa f=>Aa ?_
       obtain rfl:=sj be
       exact⟨_,_,_,Z,_,bs,bq,f.k Z,m,bt⟩
      ·refine Aj f Z bk ?_
       refine Ao ?_
       obtain rfl:=sj be
       exact⟨_,_,_,Z,_,bb,gr,f.k Z,m,bc⟩
     ·rintro a w ⟨bf,bg,bh,rfl,bi,bj,bu,f,m,bv⟩
      refine Ah (Af ?_)
      refine Ab f Z λa f=>Ab f Z λa f=> ?_
      refine BF 2 (λa w=>∃bw,GLe bi bw∧Mem W bw w (bj::H)∧Fr a 134 [(0,v0),(1,(iv ae)),(2,(iv af)),(3,(iv aP)),(8,(.bool ah)),(9,(.bool ai)),(10,(iv (i64.wrap (af-ae)))),(11,(iv bg)),(12,(iv bh)),(61,(.bool ah)),(62,(.bool ah)),(64,(.bool (ah&&ai)))]) ?_ ?_
      ·rcases Bool.eq_false_or_eq_true ah with bx|bx
       ·refine AG f bx ?_
        refine Ab f Z λa f=>l_o f (AO (f.e Z) bx (f.e Z)) λa f=> ?_
        exact⟨_,gr,m,f.weak ⟨Z,Z,Z,Z,Z,Z,Z,Z,Z,Z,Z,by rw[bx];rfl,trivial⟩⟩
       ·refine AL f bx λa f=> ?_
        refine l_o f (AP (f.e Z) bx (f.e Z)) λa f=> ?_
        exact⟨_,gr,m,f.weak ⟨Z,Z,Z,Z,Z,Z,Z,Z,Z,Z,Z,by rw[bx];rfl,trivial⟩⟩
      ·rintro a w ⟨bw,bz,m,f⟩
       have bv:=od1 bz bv
       refine Ab f Z λa f=> ?_
       refine BF 3 (λa w=>∃bA,GLe bw bA∧Mem W bA w (bj::H)∧Fr a 134 [(0,v0),(1,(iv ae)),(2,(iv af)),(3,(iv aP)),(8,(.bool ah)),(9,(.bool ai)),(10,(iv (i64.wrap (af-ae)))),(11,(iv bg)),(12,(iv bh)),(61,(.bool ah)),(62,(.bool ah)),(64,(.bool (ah&&ai))),(65,(.bool (ah&&ai))),(68,(.bool ((ah&&ai)&&(bh==1))))]) ?_ ?_
       ·rcases Bool.eq_false_or_eq_true (ah&&ai) with bB|bB
        ·refine AG f bB ?_
         refine Ab f Z λa f=>AG f bB ?_
         refine Ai f Z Z Bv λa f=>l_o f (AO (f.e Z) bB (f.e Z)) λa f=> ?_
         exact⟨_,gr,m,f.weak ⟨Z,Z,Z,Z,Z,Z,Z,Z,Z,Z,Z,Z,Z,by rw[bB];rfl,trivial⟩⟩
        ·refine AL f bB λa f=> ?_
         refine AL f bB λa f=>l_o f (AP (f.e Z) bB (f.e Z)) λa f=> ?_
         exact⟨_,gr,m,f.weak ⟨Z,Z,Z,Z,Z,Z,Z,Z,Z,Z,Z,Z,Z,by rw[bB];rfl,trivial⟩⟩
       ·rintro a w ⟨bA,bC,m,f⟩
        have bv:=od1 bC bv
        refine Aa ?_
        have⟨bD,bE,am⟩:=bind_some am
        refine AD (λa w=>∃j_513':LI,bD= .inl j_513'∧∃bF:LI,bF=j_513'∧∃(bG:GH) (bH:Itm),GLe bA bG∧Fr a 134 [(0,v0),(1,(iv ae)),(2,(iv af)),(3,(iv aP)),(8,(.bool ah)),(9,(.bool ai)),(10,(iv (i64.wrap (af-ae)))),(11,(iv bg))]∧Mem W bG w (bH::H)∧Ow R0 3 bG bH v0 bF) ?_ ?_
        ·rcases Ae bE with⟨bI,bE⟩|⟨bI,bE⟩
         ·refine Al f Z bI ?_
          refine Af ?_
          refine Ab f Z λa f=>Ab f Z λa f=>Ab f Z λa f=> ?_
          have⟨bJ,bK,bE⟩:=bind_some bE
          refine AM f Z call102 (Wk.v m bv bK) λbL bM bN w bO m bP a f=> ?_
          obtain⟨bQ,rfl,rfl,bR⟩:=bP
          refine Aa ?_
          rcases Ae bE with⟨bS,bE⟩|⟨bS,bE⟩
          ·refine Al f Z bS ?_
           refine Ap ?_
           obtain rfl:=sj bE
           obtain rfl:=sj am
           obtain rfl:=an _ rfl
           obtain rfl:=sj hd
           exact⟨[],trivial,f.d,_,[bQ],(gt ao (gt a2 (gt a9 (gt bu (gt bz (gt bC bO)))))),m,_,Z,bR⟩
          ·refine Aj f Z bS ?_
           refine Ao ?_
           obtain rfl:=sj bE
           exact⟨_,Z,_,Z,_,bQ,bO,f.k Z,m,bR⟩
         ·refine Aj f Z bI ?_
          refine Ao ?_
          obtain rfl:=sj bE
          exact⟨_,Z,_,Z,_,bj,gr,f.k Z,m,bv⟩
        ·rintro a w ⟨_,rfl,bF,rfl,bG,bH,bT,f,m,bU⟩
         refine Ah (Ah ?_)
         refine A1 15 AA (by kernel_rfl) m ?_
         refine Ag 0 15 Z f Z λa f=>q_p 1 15 Z f (λ_=>AE (f.e Z) (f.e Z) BV) λa f=>Ag 2 15 Z f Z λa f=> ?_
         have⟨bV,bW,am⟩:=bind_some am
         refine Bx (fuel':=0) (listed':= #[true,true,true,true,true,true,true,true,true,true,true,true,true,true,true]) (λa=>Fr a 134 [(0,v0),(1,(iv ae)),(2,(iv af)),(3,(iv aP)),(8,(.bool ah)),(9,(.bool ai)),(10,(iv (i64.wrap (af-ae)))),(11,(iv bg)),(73,(iv ae)),(74,(.bool (decide ((0:Int)<ae)))),(75,(.bool (decide ((0:Int)<ae)))),(87,(.bool bV))]) ?_ ?_
         ·intro a f
          refine AJ λbX w bY m=> ?_
          have bU:=od1 bY bU
          refine Aa ?_
          rcases Ae am with⟨bZ,am⟩|⟨bZ,am⟩
          ·refine Al f Z bZ ?_
           refine Af ?_
           refine Ab f Z λa f=>Ab f Z λa f=>Ab f Z λa f=>Ab f Z λa f=> ?_
           have⟨b0,b1,am⟩:=bind_some am
           refine AM f Z call104 (Wk.t m bU b1) λb2 b3 b4 w b5 m b6 a f=> ?_
           obtain⟨b7,rfl,rfl,b8⟩:=b6
           refine Ac f Z λa f=>Aw ?_
           refine Ab f Z λa f=>Ac f Z λa f=>Aa ?_
           refine Ay Z ?_
           obtain rfl:=sj am
           exact⟨_,Z,_,_,_,_,_,_,Z,_,b7,(gt ao (gt a2 (gt a9 (gt bu (gt bz (gt bC (gt bT (gt bY b5)))))))),f.k Z,m,b8⟩
          ·refine Aj f Z bZ ?_
           refine Ao ?_
           refine Af ?_
           refine Ab f Z λa f=>Ab f Z λa f=>Ab f Z λa f=>Ab f Z λa f=> ?_
           have⟨b9,ca,am⟩:=bind_some am
           refine AM f Z call105 (Wk.r m bU ca) λcb cc cd w ce m cf a f=> ?_
           obtain⟨cg,rfl,rfl,ch⟩:=cf
           refine Ab f Z λa f=>l_o f (A6 (f.e Z) Z) λa f=>l_o f (A6 (f.e Z) Z) λa f=>Ac f Z λa f=>Ac f Z λa f=>Aw ?_
           refine Ab f Z λa f=>Ac f Z λa f=>Aw ?_
           refine Ab f Z λa f=>Ab f Z λa f=>Ai f Z Z AC λa f=>Ab f Z λa f=>Ab f Z λa f=>Ai f Z Z AC λa f=>Ac f Z λa f=>Ac f Z λa f=>Aw ?_
           refine Ab f Z λa f=>Ai f Z Z (Cg Z) λa f=>Ac f Z λa f=>Aw ?_
           refine Ab f Z λa f=>Ab f Z λa f=>Ai f Z Z AT λa f=>Aa ?_
           rcases Ae am with⟨ci,am⟩|⟨ci,am⟩
           ·refine Al f Z ci ?_
            refine Af ?_
            refine Ab f Z λa f=>Ab f Z λa f=>Ai f Z Z Br λa f=>Ac f Z λa f=>Aw ?_
            refine Ab f Z λa f=>Ab f Z λa f=>Ab f Z λa f=>Ab f Z λa f=> ?_
            have⟨cj,ck,am⟩:=bind_some am
            refine AM f Z call85 (ih m ch ck) λcl cm cn w co m cp a f=> ?_
            obtain⟨cq,rfl,cr⟩:=cp
            refine Aa (Am ?_)
            refine Ab f Z λa f=>Ai f Z Z Ar λa f=>Ac f Z λa f=>Aa ?_
            obtain rfl:=sj am
            exact⟨_,Z,_,_,_,_,_,_,Z,_,cq,(gt ao (gt a2 (gt a9 (gt bu (gt bz (gt bC (gt bT (gt bY (gt ce co))))))))),f.k Z,m,cr⟩
           ·refine Aj f Z ci ?_
            refine Af ?_
            refine Ab f Z λa f=>Ab f Z λa f=>Ai f Z Z Br λa f=>Ac f Z λa f=>Aw ?_
            refine Ab f Z λa f=>Ab f Z λa f=>Ai f Z Z Ar λa f=>Ab f Z λa f=>Ab f Z λa f=> ?_
            have⟨cs,ct,am⟩:=bind_some am
            refine AM f Z call85 (ih m ch ct) λcu cv cw w cx m cy a f=> ?_
            obtain⟨cz,rfl,cA⟩:=cy
            refine Aa (Am ?_)
            refine Ab f Z λa f=>Ac f Z λa f=>Aa ?_
            obtain rfl:=sj am
            exact⟨_,Z,_,_,_,_,_,_,Z,_,cz,(gt ao (gt a2 (gt a9 (gt bu (gt bz (gt bC (gt bT (gt bY (gt ce cx))))))))),f.k Z,m,cA⟩
         ·intro cB
          rcases Ae bW with⟨cC,bW⟩|⟨cC,bW⟩
          ·refine Ag (hw:=wo f cC) 3 15 Z f Z λa f=> ?_
           refine Ag (hw:=wo f cC) 4 15 Z f Z λa f=>q_p (hw:=wo f cC) 5 15 Z f (λ_=>AE (f.e Z) (f.e Z) AC) λa f=> ?_
           have⟨cD,cE,bW⟩:=bind_some bW
           refine Ax (hw:=wo f cC) 6 15 0 m bU T63 cE Z f Z Z λcF a cG f=>AF (hw:=wo f cC) 7 15 0 bU Pl3 cG cE Z f Z λcH a cI f=> ?_
           subst cI
           refine Ag (hw:=wo f cC) 8 15 Z f Z λa f=>Ag (hw:=wo f cC) 9 15 Z f Z λa f=> ?_
           have⟨cJ,cK,bW⟩:=bind_some bW
           refine Ax (hw:=wo f cC) 10 15 0 m bU T63 cK Z f Z Z λcL a cM f=>AF (hw:=wo f cC) 11 15 0 bU Pl3 cM cK Z f Z λcN a cO f=> ?_
           subst cO
           have⟨cP,cQ,bW⟩:=bind_some bW
           refine Bb (i:=12) 15 Z (by kernel_rfl) Z f (AZ f Z Z Z cC) Z Z call103 (λ_ _ w cR m=>Wk.a m cQ) λa f=>q_p (hw:=wo f cC) 13 15 Z f (λ_=>Be (f.e Z)) λa f=>q_p 14 15 Z f (λ_=>AO (f.e Z) cC (f.e Z)) λa f=> ?_
           obtain rfl:=sj bW
           exact cB _ (f.k Z)
          ·refine An 3 15 Z f cC λa f=> ?_
           refine An 4 15 Z f cC λa f=>An 5 15 Z f cC λa f=>An 6 15 Z f cC λa f=>An 7 15 Z f cC λa f=>An 8 15 Z f cC λa f=>An 9 15 Z f cC λa f=>An 10 15 Z f cC λa f=>An 11 15 Z f cC λa f=>An 12 15 Z f cC λa f=>An 13 15 Z f cC λa f=>q_p 14 15 Z f (λ_=>AP (f.e Z) cC (f.e Z)) λa f=> ?_
           obtain rfl:=sj bW
           exact cB _ (f.k Z)
theorem Wk.b {v0:Value}{it0:Itm}{x0:LI}{x1 x2 x3:Int}(m:Mem W G w (it0::H))(o0:Ow R0 3 G it0 v0 x0){y:(LI)}(hd:D.b x0 x1 x2 x3=some y):
  Calls prog 85 #[v0,(iv x1),(iv x2),(iv x3)] w (Res W G H (λG' Ho _=>∃i0:Itm,Ho=[i0]∧Ow R0 3 G' i0 v0 y)):=by
 exact Wk.V CA m o0 hd
theorem Wk.a1 {v0:Value}{it0:Itm}{x0:LI}(m:Mem W G w (it0::H))(o0:Ow R0 3 G it0 v0 x0){y:(LI)}(hd:D.a1 x0=some y):
  Calls prog 76 #[v0] w (Res W G H (λG' Ho _=>∃i0:Itm,Ho=[i0]∧Ow R0 3 G' i0 v0 y)):=by
 refine As (args:=[v0]) (N:=11) [] func76 Z Z (lb Z) Z λa f=> ?_
 unfold D.a1 at hd
 refine Af ?_
 refine Ab f Z λa f=>BT 0 m o0 Z underlying63 f Z Z λa f=>Ac f Z λa f=>Aa (Am ?_)
 refine Ab f Z λa f=>Ab f Z λa f=>Ab f Z λa f=>l_o f (Cb (f.e Z) ⟨_,underlying3⟩ underlying68) λa f=> ?_
 have⟨aa,ab,hd⟩:=bind_some hd
 refine AM f Z call83 (Wk.C m ab) λac ad ae w af m ag a f=> ?_
 obtain⟨rfl,rfl⟩:=ag
 have o0:=od1 af o0
 have⟨ah,ai,hd⟩:=bind_some hd
 refine AM f Z call85 (Wk.b m o0 ai) λaj ak al w am m an a f=> ?_
 obtain⟨ao,rfl,ap⟩:=an
 refine Aa ?_
 obtain rfl:=sj hd
 exact⟨[],trivial,f.d,_,[ao],(gt af am),m,_,Z,ap⟩
theorem Wk.s {v0:Value}{b0:Nat}{x0:LI}(m:Mem W G w (ib b0 63 [v0]::H))(h0:R1 G v0 x0){y:(LI)}(hd:D.s x0=some y):
  Calls prog 63 #[(.func (.func 77) #[] #[(pb b0)])] w (Res W G H (λG' Ho v=>∃r0:Value,∃i0:Itm,Ho=[i0]∧r0=v∧Ow R0 3 G' i0 r0 y)):=by
 refine As (args:=[(.func (.func 77) #[] #[(pb b0)])]) (N:=9) [.tmp 2] func63 Z Z (lb Z) Z λa f=> ?_
 unfold D.s at hd
 refine Af ?_
 refine Ac f Z λa f=>Aw ?_
 refine Ab f Z λa f=> ?_
 have⟨aa,ab,hd⟩:=bind_some hd
 refine AM f Z call75 (Wk.A m h0 ab) λac ad ae w af m ag a f=> ?_
 obtain⟨ah,ai,rfl,rfl,aj⟩:=ag
 refine Ac f Z λa f=>Aw ?_
 refine Ab f Z λa f=> ?_
 have⟨ak,al,hd⟩:=bind_some hd
 refine AM f Z call76 (Wk.a1 m aj al) λam an ao w ap m aq a f=> ?_
 obtain⟨ar,rfl,au⟩:=aq
 refine Aw ?_
 refine Ab f Z λa f=>Ac f Z λa f=>Aa ?_
 refine Ap ?_
 obtain rfl:=sj hd
 exact⟨[ah],f.g Z,f.d,_,[ar],(gt af ap),m,_,_,Z,Z,au⟩
theorem Wk.S0 {v0:Value}{x0:LI}{x1:Int}(m:Mem W G w (H))(h0:R1 G v0 x0){y:Int}(hd:D.S0 x0 x1=some y):
  Calls prog 78 #[v0,(iv x1)] w (Res W G H (λ_ Ho v=>Ho=[]∧v=(iv y))):=by
 refine As (args:=[v0,(iv x1)]) (N:=19) [.tmp 4] func78 Z Z (lb Z) Z λa f=> ?_
 unfold D.S0 at hd
 refine Af ?_
 refine Ac f Z λa f=>Aa (Ah (Af ?_))
 refine Ab f Z λa f=>A2 underlying63 f Z Z h0 λa f=>Ab f Z λa f=>Aa ?_
 have⟨aa,ab,hd⟩:=bind_some hd
 refine AD (λa w=>∃q_19':Unit,aa= .inl q_19'∧∃(ac:GH),GLe G ac∧Fr a 19 []∧Mem W ac w (H)) ?_ ?_
 ·refine Ak ?_
  refine AB (λad a w=>∃ae:Int,ae=ad∧∃(af:GH),GLe G af∧Fr a 19 [(0,v0),(1,(iv x1)),(7,(iv (x0.length:Int))),(8,(iv ae))]∧Mem W af w (H)) ab ⟨_,Z,_,gr,f.k Z,m⟩ ?_
  clear ab f m
  rintro ad ag ah ai a w ⟨ae,rfl,af,aj,f,m⟩
  have h0:=rd1 aj h0
  refine Af ?_
  refine Ai f Z Z AT λa f=>Aa (Ah ?_)
  rcases Ae ah with⟨ak,ah⟩|⟨ak,ah⟩
  ·refine Al f Z ak ?_
   refine Ao ?_
   refine Ah (Ak (Af ?_))
   refine Ab f Z λa f=>Ac f Z λa f=>Aw ?_
   refine Ab f Z λa f=>Ab f Z λa f=>Ab f Z λa f=> ?_
   have⟨al,am,ah⟩:=bind_some ah
   refine Bq T63 f Z Z Z h0 am λan ao a ap aq f=> ?_
   subst aq
   refine AW m Pl3 f Z Z ap λa f=>Ai f Z Z Bv λa f=>Aa ?_
   rcases Ae ah with⟨ar,ah⟩|⟨ar,ah⟩
   ·refine Al f Z ar ?_
    refine Af ?_
    refine Ab f Z λa f=>Ac f Z λa f=>Aa ?_
    refine Ap ?_
    obtain rfl:=sj ah
    obtain rfl:=ai _ rfl
    obtain rfl:=sj hd
    exact⟨[(iv ae)],f.g Z,f.d,_,[],aj,m,Z,Z⟩
   ·refine Aj f Z ar ?_
    refine Ao ?_
    refine Am ?_
    refine Ai f Z Z Ar λa f=>Ab f Z λa f=>Aa ?_
    obtain rfl:=sj ah
    exact⟨_,Z,_,Z,_,aj,f.k Z,m⟩
  ·refine Aj f Z ak ?_
   refine Ay Z ?_
   obtain rfl:=sj ah
   obtain rfl:=ai _ rfl
   exact⟨_,Z,_,aj,f.weak trivial,m⟩
 ·rintro a w ⟨_,rfl,ac,au,f,m⟩
  refine Af ?_
  refine Ac f Z λa f=>Aa ?_
  refine Ap ?_
  obtain rfl:=sj hd
  exact⟨[(iv (-1))],f.g Z,f.d,_,[],au,m,Z,Z⟩
theorem Wk.l1 {x0:Int}(hW:CZ W)(m:Mem W G w (H)){y:Int}(hd:D.l1 x0=some y):
  Calls prog 74 #[(.int .u32 x0)] w (Res W G H (λ_ Ho v=>Ho=[]∧v=(iv y))):=by
 refine As (args:=[(.int .u32 x0)]) (N:=14) [.tmp 2] func74 Z Z (lb Z) Z λa f=> ?_
 unfold D.l1 at hd
 refine Af ?_
 refine Ac f Z λa f=>Aa (Ah (Af ?_))
 refine Ab f Z λa f=>Ai f Z Z Bv λa f=>Aa ?_
 rcases Ae hd with⟨aa,hd⟩|⟨aa,hd⟩
 ·refine Al f Z aa ?_
  refine Af ?_
  refine Ac f Z λa f=>Aa ?_
  refine Ap ?_
  obtain rfl:=sj hd
  exact⟨[(iv 32)],f.g Z,f.d,_,[],gr,m,Z,Z⟩
 ·refine Aj f Z aa ?_
  refine Ao ?_
  refine Af ?_
  refine Ab f Z λa f=>Ab f Z λa f=>l_o f (r_neg (f.e Z)) λa f=>Ai f Z Z Cv λa f=>Ai f Z Z B6 λa f=>l_o f (r_shr (f.e Z) (f.e Z) (by decide)) λa f=> ?_
  have⟨ab,ac,hd⟩:=bind_some hd
  refine l_tab hW m underlying108 sizeOf5 f Z Z ac λad a ae f=>AW m Pl5 f Z Z ae λa f=>l_o f (Cb (f.e Z) ⟨_,underlying5⟩ underlying3) λa f=>Ac f Z λa f=>Aa ?_
  refine Ap ?_
  obtain rfl:=sj hd
  exact⟨[(iv (i64.wrap ab))],f.g Z,f.d,_,[],gr,m,Z,Z⟩
theorem Wk.K0 {x0:Int}(m:Mem W G w (H)){y:Int}(hd:D.K0 x0=some y):
  Calls prog 68 #[(.int .u32 x0)] w (Res W G H (λ_ Ho v=>Ho=[]∧v=(iv y))):=by
 refine As (args:=[(.int .u32 x0)]) (N:=21) [.tmp 2] func68 Z Z (lb Z) Z λa f=> ?_
 unfold D.K0 at hd
 refine Af ?_
 refine Ac f Z λa f=>Aa (Ah ?_)
 refine A1 19 AA (by kernel_rfl) m ?_
 refine Ag 0 19 Z f Z λa f=>q_p 1 19 Z f (λ_=>r_shr (f.e Z) (f.e Z) (by decide)) λa f=> ?_
 have⟨aa,ab,hd⟩:=bind_some hd
 refine q_p 2 19 Z f (λ_=>Ej (f.e Z) (f.e Z) underlying9 ab) λa f=>Ag 3 19 Z f Z λa f=>q_p 4 19 Z f (λ_=>r_shr (f.e Z) (f.e Z) (by decide)) λa f=>q_p 5 19 Z f (λ_=>AE (f.e Z) (f.e Z) Cv) λa f=> ?_
 have⟨ac,ad,hd⟩:=bind_some hd
 refine q_p 6 19 Z f (λ_=>Ej (f.e Z) (f.e Z) underlying9 ad) λa f=>q_p 7 19 Z f (λ_=>AE (f.e Z) (f.e Z) Ar) λa f=>Ag 8 19 Z f Z λa f=>q_p 9 19 Z f (λ_=>r_shr (f.e Z) (f.e Z) (by decide)) λa f=>q_p 10 19 Z f (λ_=>AE (f.e Z) (f.e Z) Cv) λa f=> ?_
 have⟨ae,af,hd⟩:=bind_some hd
 refine q_p 11 19 Z f (λ_=>Ej (f.e Z) (f.e Z) underlying9 af) λa f=>q_p 12 19 Z f (λ_=>AE (f.e Z) (f.e Z) Ar) λa f=>Ag 13 19 Z f Z λa f=>q_p 14 19 Z f (λ_=>AE (f.e Z) (f.e Z) Cv) λa f=> ?_
 have⟨ag,ah,hd⟩:=bind_some hd
 refine q_p 15 19 Z f (λ_=>Ej (f.e Z) (f.e Z) underlying9 ah) λa f=>q_p 16 19 Z f (λ_=>AE (f.e Z) (f.e Z) Ar) λa f=>q_p 17 19 Z f (λ_=>Cb (f.e Z) ⟨_,underlying5⟩ underlying3) λa f=>q_p 18 19 Z f (λ_=>Ct (f.e Z)) λa f=>AJ λai w aj m=>Aa ?_
 refine Ap ?_
 obtain rfl:=sj hd
 exact⟨[(iv (i64.wrap (IntKind.u8.wrap ((IntKind.u8.wrap ((IntKind.u8.wrap (aa+ac))+ae))+ag))))],f.g Z,f.d,_,[],aj,m,Z,Z⟩
end Go.Proofs.YtoakbbefbhdaaaaGreatDoor
