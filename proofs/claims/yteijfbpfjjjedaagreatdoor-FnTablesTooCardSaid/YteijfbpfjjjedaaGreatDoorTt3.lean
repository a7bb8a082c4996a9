/- Parts. -/
import Derived.Test.YteijfbpfjjjedaaGreatDoorTt2
import Derived.Test.YteijfbpfjjjedaaGreatDoorProg
import Derived.KernelRfl
set_option linter.unusedVariables false
set_option linter.unusedSimpArgs false
set_option linter.unusedSectionVars false
set_option maxRecDepth 100000
namespace Go.Proofs.YteijfbpfjjjedaaGreatDoor
open Go Go.Sx
open Go.Proofs.Tryz Go.Proofs.YteijfbpfjjjedaaGreatDoor.Tryz IntKind
variable {W w : World} {G : GH} {H : List Itm}
theorem Pl60 :BS prog 60:=isAgg60
theorem Pl62 :BS prog 62:=isAgg62
theorem DJ :Agg prog 38 4:=⟨isAgg38,sizeOf38⟩
theorem Wk.u {aa:Value}{ab:LL}(m:Mem W G w (H))(ac:R2 G aa ab){y:(LI)}(hd:D.u ab=some y):
  Calls prog 36 #[(.agg #[aa])] w (Res W G H (λG' Ho v=>∃r0:Value,∃i0:Itm,Ho=[i0]∧r0=v∧Ow (RI .u32) 69 G' i0 r0 y)):=by
 refine Au (args:=[(.agg #[aa])]) (N:=21) [.tmp 2] func36 Z Z (lb Z) Z λa f=> ?_
 unfold D.u at hd
 refine Ae ?_
 refine Bo (cs:=[aa]) m f Z Z Z λad w a m f=>Ac f Z λa f=>AD ?_
 refine A7 (R:=(RI .u32)) (xs:=([]:LI)) (RI.one _) m T62 f Z Z Z (by decide) (All2.nil _) λae af w a m ag f=>Ac f Z λa f=>Aa (Ag (Ae ?_))
 refine AW underlying29 Z sizeOf27 f Z λa f=>As 1 0 m Be f Z Z Z Z λa f=>AL underlying27 f Z Z ac λa f=>Ab f Z λa f=>Aa ?_
 have⟨ah,ai,hd⟩:=bind_some hd
 refine AM (λa w=>∃aj:LI,aj=ah∧∃(ak:GH) (al:Value) (am:Itm),GLe G ak∧Fr a 21 [(3,al)]∧Mem W ak w (am::H)∧Ow (RI .u32) 69 ak am al aj) ?_ ?_
 ·refine Ak ?_
  have m:=m.eraseAt 1
  refine AO (λan a w=>∃ao:LI,∃ap:Int,(ao,ap)=an∧∃(aq:GH) (ar:Value) (au:Itm),GLe G aq∧Fr a 21 [(3,ar),(8,aa),(9,(iv (ab.length:Int))),(10,(iv ap))]∧Mem W aq w (au::H)∧Ow (RI .u32) 69 aq au ar ao) ai ⟨_,_,Z,_,af,ae,gr,f.k Z,m,ag⟩ ?_
  clear ai f m
  rintro an av aw ax a w ⟨ao,ap,rfl,aq,ar,au,ay,f,m,az⟩
  have ac:=rd2 ay ac
  refine Ae ?_
  refine Ah f Z Z AR λa f=>Aa (Ag ?_)
  rcases Af aw with⟨aA,aw⟩|⟨aA,aw⟩
  ·refine Al f Z aA ?_
   refine Am ?_
   refine Ag (Ak (Ae ?_))
   have⟨aB,aC,aw⟩:=bind_some aw
   refine A4 T27 f Z Z Z ac aC λaD aE a aF aG f=>Ax m Ba f Z Z aF λa f=>Ac f Z λa f=>Aa (Aj ?_)
   refine Ab f Z λa f=>Ab f Z λa f=> ?_
   have⟨aH,aI,aw⟩:=bind_some aw
   refine Bd f Z call76 (Wk.k m aG aI) λaJ w aK m a f=> ?_
   have az:=od1 aK az
   refine A7 (R:=(RI .u32)) (xs:=([aH]:LI)) (RI.one _) m T62 f Z Z Z (by decide) (All2.cons Z (All2.nil _)) λaL aM w a m aN f=> ?_
   have⟨aO,aP,aw⟩:=bind_some aw
   refine Bh (RI.one _) 1 m az Z T62 Z (by decide) f Z Z Z (Ow.src (j:=0) aN m Z) aP λaQ aR w a m aS f=>Ac f Z λa f=>Aa (Aj ?_)
   refine Ah f Z Z AB λa f=>Ab f Z λa f=>Aa ?_
   have m:=m.fr 1
   have m:=m.eraseAt 1
   obtain rfl:=sj aw
   exact⟨_,Z,_,_,Z,_,aR,aQ,(gt ay aK),f.k Z,m,aS⟩
  ·refine Ai f Z aA ?_
   refine AG Z ?_
   obtain rfl:=sj aw
   obtain rfl:=ax _ rfl
   exact⟨_,Z,_,ar,au,ay,f.k Z,m,az⟩
 ·rintro a w ⟨aj,rfl,ak,al,am,aT,f,m,aU⟩
  refine Ae ?_
  refine Ab f Z λa f=>Ac f Z λa f=>Aa ?_
  refine Ap ?_
  obtain rfl:=sj hd
  exact⟨[al],f.g Z,f.d,_,[am],aT,m,_,_,Z,Z,aU⟩
theorem Wk.c {x0 x1:Int}(m:Mem W G w (H)){y:Bool}(hd:D.c x0 x1=some y):
  Calls prog 40 #[(.int .u32 x0),(iv x1)] w (Res W G H (λ_ Ho v=>Ho=[]∧v=(.bool y))):=by
 refine Au (args:=[(.int .u32 x0),(iv x1)]) (N:=10) [.tmp 4] func40 Z Z (lb Z) Z λa f=> ?_
 unfold D.c at hd
 refine Ae ?_
 refine Ac f Z λa f=>AD ?_
 refine Ab f Z λa f=>Ab f Z λa f=> ?_
 obtain⟨aa,hd⟩:=Ci hd
 refine l_o f (r_shr (f.e Z) (f.e Z) aa) λa f=>Ah f Z Z CC λa f=>Ah f Z Z Bj λa f=>Ac f Z λa f=>Aa ?_
 refine Ap ?_
 obtain rfl:=sj hd
 exact⟨[(.bool ((iand .u32 (Cu .u32 x0 x1) 1)==1))],f.g Z,f.d,_,[],gr,m,Z,Z⟩
theorem Wk.L {v0 v1:Value}{x0 x1:LI}(m:Mem W G w (H))(h0:RSl (RI .u32) G v0 x0)(h1:RSl (RI .u32) G v1 x1){y:Bool}(hd:D.L x0 x1=some y):
  Calls prog 74 #[v0,v1] w (Res W G H (λ_ Ho v=>Ho=[]∧v=(.bool y))):=by
 refine Au (args:=[v0,v1]) (N:=41) [.tmp 4] func74 Z Z (lb Z) Z λa f=> ?_
 unfold D.L at hd
 refine Ae ?_
 refine Ac f Z λa f=>Aa (Ag (Ae ?_))
 refine Ab f Z λa f=>AL underlying62 f Z Z h0 λa f=>Ab f Z λa f=>Aa ?_
 have⟨aa,ab,hd⟩:=bind_some hd
 refine AM (λa w=>∃q_191':Unit,aa= .inl q_191'∧∃(ac:GH),GLe G ac∧Fr a 41 []∧Mem W ac w (H)) ?_ ?_
 ·refine Ak ?_
  refine AO (λad a w=>∃ae:Int,ae=ad∧∃(af:GH),GLe G af∧Fr a 41 [(1,v1),(10,v0),(11,(iv (x0.length:Int))),(12,(iv ae))]∧Mem W af w (H)) ab ⟨_,Z,_,gr,f.k Z,m⟩ ?_
  clear ab f m
  rintro ad ag ah ai a w ⟨ae,rfl,af,aj,f,m⟩
  have h1:=rd1 aj h1
  have h0:=rd1 aj h0
  refine Ae ?_
  refine Ah f Z Z AR λa f=>Aa (Ag ?_)
  rcases Af ah with⟨ak,ah⟩|⟨ak,ah⟩
  ·refine Al f Z ak ?_
   refine Am ?_
   refine Ag (Ak (Ae ?_))
   refine Ab f Z λa f=> ?_
   have⟨al,am,ah⟩:=bind_some ah
   refine A4 T62 f Z Z Z h0 am λan ao a ap aq f=> ?_
   subst aq
   refine Ax m BM f Z Z ap λa f=>Ac f Z λa f=>Ac f Z λa f=>AD ?_
   refine Ac f Z λa f=>Aa (Ag (Ae ?_))
   refine Ab f Z λa f=>AL underlying60 f Z Z h1 λa f=>Ab f Z λa f=>Aa ?_
   have⟨ar,au,ah⟩:=bind_some ah
   refine AM (λa w=>∃av:Int,av=ar∧∃(aw:GH),GLe af aw∧Fr a 41 [(1,v1),(5,(iv ae)),(6,(.int .u32 al)),(7,(.int .u32 av)),(10,v0),(11,(iv (x0.length:Int))),(12,(iv ae))]∧Mem W aw w (H)) ?_ ?_
   ·refine Ak ?_
    refine AO (λax a w=>∃ay:Int,∃az:Int,(ay,az)=ax∧∃(aA:GH),GLe af aA∧Fr a 41 [(1,v1),(5,(iv ae)),(6,(.int .u32 al)),(7,(.int .u32 ay)),(10,v0),(11,(iv (x0.length:Int))),(12,(iv ae)),(17,v1),(18,(iv (x1.length:Int))),(19,(iv az))]∧Mem W aA w (H)) au ⟨_,_,Z,_,gr,f.k Z,m⟩ ?_
    clear au f m
    rintro ax aB aC aD a w ⟨ay,az,rfl,aA,aE,f,m⟩
    have h1:=rd1 aE h1
    refine Ae ?_
    refine Ah f Z Z AR λa f=>Aa (Ag ?_)
    rcases Af aC with⟨aF,aC⟩|⟨aF,aC⟩
    ·refine Al f Z aF ?_
     refine Am ?_
     refine Ag (Ak (Ae ?_))
     have⟨aG,aH,aC⟩:=bind_some aC
     refine A4 T60 f Z Z Z h1 aH λaI aJ a aK aL f=> ?_
     subst aL
     refine Ax m BM f Z Z aK λa f=>Ac f Z λa f=>AD ?_
     refine Ab f Z λa f=>Ab f Z λa f=> ?_
     have⟨aM,aN,aC⟩:=bind_some aC
     refine Bd f Z call40 (Wk.c m aN) λaO w aP m a f=>Aa ?_
     rcases Af aC with⟨aQ,aC⟩|⟨aQ,aC⟩
     ·refine Al f Z aQ ?_
      refine Aj ?_
      refine Ab f Z λa f=>Ab f Z λa f=>Ah f Z Z Db λa f=>Ac f Z λa f=>Aa (Aj ?_)
      refine Ah f Z Z AB λa f=>Ab f Z λa f=>Aa ?_
      obtain rfl:=sj aC
      exact⟨_,Z,_,_,Z,_,(gt aE aP),f.k Z,m⟩
     ·refine Ai f Z aQ ?_
      refine Am ?_
      refine Aj ?_
      refine Ah f Z Z AB λa f=>Ab f Z λa f=>Aa ?_
      obtain rfl:=sj aC
      exact⟨_,Z,_,_,Z,_,(gt aE aP),f.k Z,m⟩
    ·refine Ai f Z aF ?_
     refine AG Z ?_
     obtain rfl:=sj aC
     obtain rfl:=aD _ rfl
     exact⟨_,Z,_,aE,f.k Z,m⟩
   ·rintro a w ⟨av,rfl,aw,aR,f,m⟩
    refine Ae ?_
    refine Ab f Z λa f=>Ab f Z λa f=> ?_
    have⟨aS,aT,ah⟩:=bind_some ah
    refine Bd f Z call40 (Wk.c m aT) λaU w aV m a f=>l_o f (By (f.e Z)) λa f=>Ab f Z λa f=> ?_
    refine Bx 5 (λa w=>∃aW,GLe aU aW∧Mem W aW w (H)∧Fr a 41 [(1,v1),(5,(iv ae)),(6,(.int .u32 al)),(7,(.int .u32 av)),(10,v0),(11,(iv (x0.length:Int))),(12,(iv ae)),(30,(.int .u32 av)),(31,(iv ae)),(32,(.bool aS)),(33,(.bool (!aS))),(34,(.bool (!aS))),(39,(.bool ((!aS)||((iandNot .u32 al av) !=0))))]) ?_ ?_
    ·rcases Bool.eq_false_or_eq_true (!aS) with aX|aX
     ·refine Ar f aX λa f=> ?_
      refine Ar f aX λa f=>Ar f aX λa f=>Ar f aX λa f=>l_o f (AI (f.e Z) aX (f.e Z)) λa f=> ?_
      exact⟨_,gr,m,f.weak ⟨Z,Z,Z,Z,Z,Z,Z,Z,Z,Z,Z,Z,by rw[aX];rfl,trivial⟩⟩
     ·refine Aq f aX ?_
      refine Ab f Z λa f=>Aq f aX ?_
      refine Ab f Z λa f=>Aq f aX ?_
      refine Ah f Z Z CN λa f=>Aq f aX ?_
      refine Ah f Z Z Cm λa f=>l_o f (AJ (f.e Z) aX (f.e Z)) λa f=> ?_
      exact⟨_,gr,m,f.weak ⟨Z,Z,Z,Z,Z,Z,Z,Z,Z,Z,Z,Z,by rw[aX];rfl,trivial⟩⟩
    ·rintro a w ⟨aW,aY,m,f⟩
     refine Aa ?_
     rcases Af ah with⟨aZ,ah⟩|⟨aZ,ah⟩
     ·refine Al f Z aZ ?_
      refine Ae ?_
      refine Ac f Z λa f=>Aa ?_
      refine Ap ?_
      obtain rfl:=sj ah
      obtain rfl:=ai _ rfl
      obtain rfl:=sj hd
      exact⟨[(.bool false)],f.g Z,f.d,_,[],(gt aj (gt aR (gt aV aY))),m,Z,Z⟩
     ·refine Ai f Z aZ ?_
      refine Am ?_
      refine Aj ?_
      refine Ah f Z Z AB λa f=>Ab f Z λa f=>Aa ?_
      obtain rfl:=sj ah
      exact⟨_,Z,_,Z,_,(gt aj (gt aR (gt aV aY))),f.k Z,m⟩
  ·refine Ai f Z ak ?_
   refine AG Z ?_
   obtain rfl:=sj ah
   obtain rfl:=ai _ rfl
   exact⟨_,Z,_,aj,f.weak trivial,m⟩
 ·rintro a w ⟨_,rfl,ac,a0,f,m⟩
  refine Ae ?_
  refine Ac f Z λa f=>Aa ?_
  refine Ap ?_
  obtain rfl:=sj hd
  exact⟨[(.bool true)],f.g Z,f.d,_,[],a0,m,Z,Z⟩
theorem Wk.E0 {aa ab ac:Value}{ad ae af:LL}(hW:Dc W)(m:Mem W G w (H))(ag:R2 G aa ad)(ah:R2 G ab ae)(ai:R2 G ac af){y:Bool}(hd:D.E0 ad ae af=some y):
  Calls prog 23 #[(.agg #[aa]),(.agg #[ab,ac])] w (Res W G H (λ_ Ho v=>Ho=[]∧v=(.bool y))):=by
 refine Au (args:=[(.agg #[aa]),(.agg #[ab,ac])]) (N:=100) [.tmp 4] func23 Z Z (lb Z) Z λa f=> ?_
 unfold D.E0 at hd
 refine Ae ?_
 refine Bo (cs:=[aa]) m f Z Z Z λaj w a m f=>Bo (cs:=[ab,ac]) m f Z Z Z λak w a m f=>Ac f Z λa f=>AD ?_
 refine AW underlying32 Z sizeOf27 f Z λa f=>As 0 0 m Be f Z Z Z Z λa f=>AL underlying27 f Z Z ah λa f=>Ac f Z λa f=>Aa (Ag (Ae ?_))
 refine AC 1 0 (ds:=[aa]) m Bv f Z Z Z Z Z λa f=> ?_
 have⟨al,am,hd⟩:=bind_some hd
 refine Bd f Z call69 (Wk.b0 m ag am) λan w ao m a f=> ?_
 have ag:=rd2 ao ag
 have ah:=rd2 ao ah
 have ai:=rd2 ao ai
 refine l_o f (By (f.e Z)) λa f=>Ab f Z λa f=> ?_
 refine Bx 3 (λa w=>∃ap,GLe an ap∧Mem W ap w (ib ak 32 [ab,ac]::ib aj 29 [aa]::H)∧Fr a 100 [(0,(.agg #[aa])),(1,(.agg #[ab,ac])),(2,(pb aj)),(3,(pb ak)),(5,(iv (ae.length:Int))),(17,(.agg #[aa])),(18,(.bool al)),(19,(.bool (!al))),(20,(.bool (!al))),(23,(.bool ((!al)||(decide ((ae.length:Int)<1)))))]) ?_ ?_
 ·rcases Bool.eq_false_or_eq_true (!al) with aq|aq
  ·refine Ar f aq λa f=> ?_
   refine Ar f aq λa f=>l_o f (AI (f.e Z) aq (f.e Z)) λa f=> ?_
   exact⟨_,gr,m,f.weak ⟨Z,Z,Z,Z,Z,Z,Z,Z,Z,by rw[aq];rfl,trivial⟩⟩
  ·refine Aq f aq ?_
   refine Ab f Z λa f=>Aq f aq ?_
   refine Ah f Z Z AR λa f=>l_o f (AJ (f.e Z) aq (f.e Z)) λa f=> ?_
   exact⟨_,gr,m,f.weak ⟨Z,Z,Z,Z,Z,Z,Z,Z,Z,by rw[aq];rfl,trivial⟩⟩
 ·rintro a w ⟨ap,ar,m,f⟩
  have ag:=rd2 ar ag
  have ah:=rd2 ar ah
  have ai:=rd2 ar ai
  refine Ab f Z λa f=> ?_
  refine Bx 3 (λa w=>∃au,GLe ap au∧Mem W au w (ib ak 32 [ab,ac]::ib aj 29 [aa]::H)∧Fr a 100 [(0,(.agg #[aa])),(1,(.agg #[ab,ac])),(2,(pb aj)),(3,(pb ak)),(5,(iv (ae.length:Int))),(17,(.agg #[aa])),(18,(.bool al)),(19,(.bool (!al))),(20,(.bool (!al))),(23,(.bool ((!al)||(decide ((ae.length:Int)<1))))),(24,(.bool ((!al)||(decide ((ae.length:Int)<1))))),(27,(.bool (((!al)||(decide ((ae.length:Int)<1)))||(decide ((16:Int)<(ae.length:Int))))))]) ?_ ?_
  ·rcases Bool.eq_false_or_eq_true ((!al)||(decide ((ae.length:Int)<1))) with av|av
   ·refine Ar f av λa f=> ?_
    refine Ar f av λa f=>l_o f (AI (f.e Z) av (f.e Z)) λa f=> ?_
    exact⟨_,gr,m,f.weak ⟨Z,Z,Z,Z,Z,Z,Z,Z,Z,Z,Z,by rw[av];rfl,trivial⟩⟩
   ·refine Aq f av ?_
    refine Ab f Z λa f=>Aq f av ?_
    refine Ah f Z Z Cz λa f=>l_o f (AJ (f.e Z) av (f.e Z)) λa f=> ?_
    exact⟨_,gr,m,f.weak ⟨Z,Z,Z,Z,Z,Z,Z,Z,Z,Z,Z,by rw[av];rfl,trivial⟩⟩
  ·rintro a w ⟨au,aw,m,f⟩
   have ag:=rd2 aw ag
   have ah:=rd2 aw ah
   have ai:=rd2 aw ai
   refine Ab f Z λa f=> ?_
   refine Bx 7 (λa w=>∃ax,GLe au ax∧Mem W ax w (ib ak 32 [ab,ac]::ib aj 29 [aa]::H)∧Fr a 100 [(0,(.agg #[aa])),(1,(.agg #[ab,ac])),(2,(pb aj)),(3,(pb ak)),(5,(iv (ae.length:Int))),(17,(.agg #[aa])),(18,(.bool al)),(19,(.bool (!al))),(20,(.bool (!al))),(23,(.bool ((!al)||(decide ((ae.length:Int)<1))))),(24,(.bool ((!al)||(decide ((ae.length:Int)<1))))),(27,(.bool (((!al)||(decide ((ae.length:Int)<1)))||(decide ((16:Int)<(ae.length:Int)))))),(28,(.bool (((!al)||(decide ((ae.length:Int)<1)))||(decide ((16:Int)<(ae.length:Int)))))),(35,(.bool ((((!al)||(decide ((ae.length:Int)<1)))||(decide ((16:Int)<(ae.length:Int))))||((af.length:Int) !=(i64.wrap ((ae.length:Int)-1))))))]) ?_ ?_
   ·rcases Bool.eq_false_or_eq_true (((!al)||(decide ((ae.length:Int)<1)))||(decide ((16:Int)<(ae.length:Int)))) with ay|ay
    ·refine Ar f ay λa f=> ?_
     refine Ar f ay λa f=>Ar f ay λa f=>Ar f ay λa f=>Ar f ay λa f=>Ar f ay λa f=>l_o f (AI (f.e Z) ay (f.e Z)) λa f=> ?_
     exact⟨_,gr,m,f.weak ⟨Z,Z,Z,Z,Z,Z,Z,Z,Z,Z,Z,Z,Z,by rw[ay];rfl,trivial⟩⟩
    ·refine Aq f ay ?_
     refine AW underlying32 Z sizeOf27 f Z λa f=>Aq f ay ?_
     refine As 0 1 m Be f Z Z Z Z λa f=>Aq f ay ?_
     refine AL underlying27 f Z Z ai λa f=>Aq f ay ?_
     refine Ab f Z λa f=>Aq f ay ?_
     refine Ah f Z Z Ck λa f=>Aq f ay ?_
     refine Ah f Z Z Cm λa f=>l_o f (AJ (f.e Z) ay (f.e Z)) λa f=> ?_
     exact⟨_,gr,m,f.weak ⟨Z,Z,Z,Z,Z,Z,Z,Z,Z,Z,Z,Z,Z,by rw[ay];rfl,trivial⟩⟩
   ·rintro a w ⟨ax,az,m,f⟩
    have ag:=rd2 az ag
    have ah:=rd2 az ah
    have ai:=rd2 az ai
    refine Ab f Z λa f=> ?_
    have⟨aA,aB,hd⟩:=bind_some hd
    refine Bx 6 (λa w=>∃aC,GLe ax aC∧Mem W aC w (ib ak 32 [ab,ac]::ib aj 29 [aa]::H)∧Fr a 100 [(0,(.agg #[aa])),(1,(.agg #[ab,ac])),(2,(pb aj)),(3,(pb ak)),(5,(iv (ae.length:Int))),(17,(.agg #[aa])),(18,(.bool al)),(19,(.bool (!al))),(20,(.bool (!al))),(23,(.bool ((!al)||(decide ((ae.length:Int)<1))))),(24,(.bool ((!al)||(decide ((ae.length:Int)<1))))),(27,(.bool (((!al)||(decide ((ae.length:Int)<1)))||(decide ((16:Int)<(ae.length:Int)))))),(28,(.bool (((!al)||(decide ((ae.length:Int)<1)))||(decide ((16:Int)<(ae.length:Int)))))),(35,(.bool ((((!al)||(decide ((ae.length:Int)<1)))||(decide ((16:Int)<(ae.length:Int))))||((af.length:Int) !=(i64.wrap ((ae.length:Int)-1)))))),(36,(.bool ((((!al)||(decide ((ae.length:Int)<1)))||(decide ((16:Int)<(ae.length:Int))))||((af.length:Int) !=(i64.wrap ((ae.length:Int)-1)))))),(42,(.bool aA))]) ?_ ?_
    ·rcases Af aB with⟨aD,aB⟩|⟨aD,aB⟩
     ·refine Ar f aD λa f=> ?_
      refine Ar f aD λa f=>Ar f aD λa f=>Ar f aD λa f=>Ar f aD λa f=>l_o f (AI (f.e Z) aD (f.e Z)) λa f=> ?_
      obtain rfl:=sj aB
      exact⟨_,gr,m,f.k Z⟩
     ·refine Aq f aD ?_
      refine AW underlying32 Z sizeOf27 f Z λa f=>Aq f aD ?_
      refine As 0 1 m Be f Z Z Z Z λa f=>Aq f aD ?_
      refine Ab f Z λa f=>Aq f aD ?_
      have⟨aE,aF,aB⟩:=bind_some aB
      refine Bd f Z call70 (Wk.r m ai aF) λaG w aH m a f=>Aq f aD ?_
      refine l_o f (By (f.e Z)) λa f=>l_o f (AJ (f.e Z) aD (f.e Z)) λa f=> ?_
      obtain rfl:=sj aB
      exact⟨_,aH,m,f.k Z⟩
    ·rintro a w ⟨aC,aI,m,f⟩
     have ag:=rd2 aI ag
     have ah:=rd2 aI ah
     have ai:=rd2 aI ai
     refine Aa ?_
     rcases Af hd with⟨aJ,hd⟩|⟨aJ,hd⟩
     ·refine Al f Z aJ ?_
      refine Ae ?_
      refine Ac f Z λa f=>Aa ?_
      refine Ap ?_
      have m:Mem W aC w H:=Mem.drop (H':=[ib ak 32 [ab,ac],ib aj 29 [aa]]) m
      obtain rfl:=sj hd
      exact⟨[(.bool false)],f.g Z,f.d,_,[],(gt ao (gt ar (gt aw (gt az aI)))),m,Z,Z⟩
     ·refine Ai f Z aJ ?_
      refine Am ?_
      refine Ag (Ae ?_)
      refine AW underlying32 Z sizeOf27 f Z λa f=>As 0 0 m Be f Z Z Z Z λa f=>AL underlying27 f Z Z ah λa f=>Ab f Z λa f=>Aa ?_
      have⟨aK,aL,hd⟩:=bind_some hd
      refine AM (λa w=>∃q_80':Unit,aK= .inl q_80'∧∃(aM:GH),GLe aC aM∧Fr a 100 [(2,(pb aj)),(3,(pb ak))]∧Mem W aM w (ib aj 29 [aa]::ib ak 32 [ab,ac]::H)) ?_ ?_
      ·refine Ak ?_
       have m:=m.fr 1
       refine AO (λaN a w=>∃aO:Int,aO=aN∧∃(aP:GH),GLe aC aP∧Fr a 100 [(2,(pb aj)),(3,(pb ak)),(44,ab),(45,(iv (ae.length:Int))),(46,(iv aO))]∧Mem W aP w (ib aj 29 [aa]::ib ak 32 [ab,ac]::H)) aL ⟨_,Z,_,gr,f.k Z,m⟩ ?_
       clear aL f m
       rintro aN aQ aR aS a w ⟨aO,rfl,aP,aT,f,m⟩
       have ah:=rd2 aT ah
       have ag:=rd2 aT ag
       refine Ae ?_
       refine Ah f Z Z AR λa f=>Aa (Ag ?_)
       rcases Af aR with⟨aU,aR⟩|⟨aU,aR⟩
       ·refine Al f Z aU ?_
        refine Am ?_
        refine Ag (Ak (Ae ?_))
        have⟨aV,aW,aR⟩:=bind_some aR
        refine A4 T27 f Z Z Z ah aW λaX aY a aZ a0 f=>Ax m Ba f Z Z aZ λa f=>Ac f Z λa f=>AD ?_
        refine Ab f Z λa f=>AW underlying29 Z sizeOf27 f Z λa f=>As 0 0 m Be f Z Z Z Z λa f=>AL underlying27 f Z Z ag λa f=> ?_
        have⟨a1,a2,aR⟩:=bind_some aR
        refine Bd f Z call71 (Wk.v m a0 a2) λa3 w a4 m a f=>l_o f (By (f.e Z)) λa f=>Aa ?_
        rcases Af aR with⟨a5,aR⟩|⟨a5,aR⟩
        ·refine Al f Z a5 ?_
         refine Ae ?_
         refine Ac f Z λa f=>Aa ?_
         refine Ap ?_
         have m:Mem W a3 w H:=Mem.drop (H':=[ib aj 29 [aa],ib ak 32 [ab,ac]]) m
         obtain rfl:=sj aR
         obtain rfl:=aS _ rfl
         obtain rfl:=sj hd
         exact⟨[(.bool false)],f.g Z,f.d,_,[],(gt ao (gt ar (gt aw (gt az (gt aI (gt aT a4)))))),m,Z,Z⟩
        ·refine Ai f Z a5 ?_
         refine Am ?_
         refine Aj ?_
         refine Ah f Z Z AB λa f=>Ab f Z λa f=>Aa ?_
         obtain rfl:=sj aR
         exact⟨_,Z,_,Z,_,(gt aT a4),f.k Z,m⟩
       ·refine Ai f Z aU ?_
        refine AG Z ?_
        obtain rfl:=sj aR
        obtain rfl:=aS _ rfl
        exact⟨_,Z,_,aT,f.k Z,m⟩
      ·rintro a w ⟨_,rfl,aM,a6,f,m⟩
       have ag:=rd2 a6 ag
       have ah:=rd2 a6 ah
       have ai:=rd2 a6 ai
       refine Ag ?_
       refine Bf 7 AU (by kernel_rfl) m ?_
       refine BE (i:=0) (ds:=[ab,ac]) 7 1 Ag32 Z Z Z Z (by kernel_rfl) Z f Z Z Z λa f=>Bt 2 7 underlying32 Z sizeOf27 Z f Z λa f=>Br 3 7 1 Be Z Z Z f Z λa f=>BC 1 Z λa7 w a8 m a9 a9=> ?_
       have ah:=rd2 a8 ah
       have ai:=rd2 a8 ai
       have ag:=rd2 a8 ag
       have⟨ba,bb,hd⟩:=bind_some hd
       refine AX f Z call27 (Wk.U m ah ai bb) λbc bd be w bf m bg a f=> ?_
       obtain⟨bh,bi,rfl,rfl,bj⟩:=bg
       have ah:=rd2 bf ah
       have ag:=rd2 bf ag
       refine Aa ?_
       refine a9 bd [bi] _ _ bf m ?_
       refine BC 4 Z λbk w bl m bm bm=> ?_
       have ah:=rd2 bl ah
       have bj:=od1 bl bj
       have ag:=rd2 bl ag
       have⟨bn,bo,hd⟩:=bind_some hd
       refine AX f Z call26 (Wk.l m ah bo) λbp bq br w bs m bt a f=> ?_
       obtain⟨bu,bv,rfl,rfl,bw⟩:=bt
       have bj:=od1 bs bj
       have ag:=rd2 bs ag
       refine Aa ?_
       refine bm bq [bv,bi] _ _ bs m ?_
       refine q_p 5 7 Z f (λ_=>Bs (f.e Z)) λa f=>q_p 6 7 Z f (λ_=>Bs (f.e Z)) λa f=>A2 λbx w bz m=> ?_
       have bw:=od1 bz bw
       have bj:=od1 bz bj
       have ag:=rd2 bz ag
       refine Aa (Ag (Ae ?_))
       refine Ab f Z λa f=>Ab f Z λa f=> ?_
       have⟨bA,bB,hd⟩:=bind_some hd
       refine AX f Z call73 (Ow.lendCall (RI.mono _) 1 bj m Z (λbC bD m bE=>Wk.h0 m bE bB) (λ_ _ _ _ h=>h)) λbF bG bH w bI m bJ a f=> ?_
       obtain⟨rfl,rfl⟩:=bJ
       have bw:=od1 bI bw
       have bj:=od1 bI bj
       have ag:=rd2 bI ag
       have⟨bK,bL,hd⟩:=bind_some hd
       refine AX f Z call72 (Ow.lendCall (RI.mono _) 1 bj m Z (λbM bN m bO=>Wk.X hW m bO bL) (λ_ _ _ _ h=>h)) λbP bQ bR w bS m bT a f=> ?_
       obtain⟨rfl,rfl⟩:=bT
       have bw:=od1 bS bw
       have bj:=od1 bS bj
       have ag:=rd2 bS ag
       refine l_o f (By (f.e Z)) λa f=>Ab f Z λa f=> ?_
       have⟨bU,bV,hd⟩:=bind_some hd
       refine Bx 6 (λa w=>∃bW,GLe bQ bW∧Mem W bW w (bv::bi::ib aj 29 [aa]::ib ak 32 [ab,ac]::H)∧Fr a 100 [(2,(pb aj)),(3,(pb ak)),(8,bh),(9,bu),(62,bh),(63,bh),(64,(.int .u32 bA)),(65,(.bool bK)),(66,(.bool (!bK))),(67,(.bool (!bK))),(73,(.bool bU))]) ?_ ?_
       ·rcases Af bV with⟨bX,bV⟩|⟨bX,bV⟩
        ·refine Ar f bX λa f=> ?_
         refine Ar f bX λa f=>Ar f bX λa f=>Ar f bX λa f=>Ar f bX λa f=>l_o f (AI (f.e Z) bX (f.e Z)) λa f=> ?_
         obtain rfl:=sj bV
         exact⟨_,gr,m,f.k Z⟩
        ·refine Aq f bX ?_
         refine AC 2 0 (ds:=[aa]) m Bv f Z Z Z Z Z λa f=>Aq f bX ?_
         have⟨bY,bZ,bV⟩:=bind_some bV
         refine AX f Z call36 (Wk.u m ag bZ) λb0 b1 b2 w b3 m b4 a f=> ?_
         obtain⟨b5,b6,rfl,rfl,b7⟩:=b4
         have bw:=od1 b3 bw
         refine Aq f bX ?_
         refine Ab f Z λa f=>Aq f bX ?_
         have⟨b8,b9,bV⟩:=bind_some bV
         refine AX f Z call74 (Ow.lendCall (RI.mono _) 0 b7 m Z (λca cb m cc=>(Ow.lendCall (RI.mono _) 0 (od1 cb bw) m Z (λcd ce m cf=>Wk.L m (rd1 ce cc) cf b9) (λ_ _ _ _ h=>h))) (λ_ _ _ _ h=>h)) λcg ch ci w cj m ck a f=> ?_
         obtain⟨rfl,rfl⟩:=ck
         refine Aq f bX ?_
         refine l_o f (By (f.e Z)) λa f=>l_o f (AJ (f.e Z) bX (f.e Z)) λa f=> ?_
         obtain rfl:=sj bV
         have m:=m.fr 4
         have m:=m.fr 4
         have m:Mem W ch w (bi::ib aj 29 [aa]::ib ak 32 [ab,ac]::b6::bv::H):=m.fr 4
         have m:=m.fr 4
         have m:Mem W ch w (bv::bi::ib aj 29 [aa]::ib ak 32 [ab,ac]::H):=m.eraseAt 4
         exact⟨_,(gt b3 cj),m,f.k Z⟩
       ·rintro a w ⟨bW,cl,m,f⟩
        have bw:=od1 cl bw
        have bj:=od1 cl bj
        have ag:=rd2 cl ag
        refine Aa ?_
        rcases Af hd with⟨cm,hd⟩|⟨cm,hd⟩
        ·refine Al f Z cm ?_
         refine Ae ?_
         refine Ac f Z λa f=>Aa ?_
         refine Ap ?_
         have m:Mem W bW w H:=Mem.drop (H':=[bv,bi,ib aj 29 [aa],ib ak 32 [ab,ac]]) m
         obtain rfl:=sj hd
         exact⟨[(.bool false)],f.g Z,f.d,_,[],(gt ao (gt ar (gt aw (gt az (gt aI (gt a6 (gt a8 (gt bf (gt bl (gt bs (gt bz (gt bI (gt bS cl))))))))))))),m,Z,Z⟩
        ·refine Ai f Z cm ?_
         refine Am ?_
         refine Ag (Ae ?_)
         refine AW underlying29 Z sizeOf27 f Z λa f=>As 2 0 m Be f Z Z Z Z λa f=>AL underlying27 f Z Z ag λa f=>Ab f Z λa f=>Aa ?_
         have⟨cn,co,hd⟩:=bind_some hd
         refine AM (λa w=>∃q_483':Unit,cn= .inl q_483'∧∃(cp:GH),GLe bW cp∧Fr a 100 []∧Mem W cp w (H)) ?_ ?_
         ·refine Ak ?_
          have m:=m.fr 1
          have m:=m.eraseAt 3
          have m:=m.eraseAt 2
          refine AO (λcq a w=>∃cr:Int,cr=cq∧∃(ct:GH),GLe bW ct∧Fr a 100 [(8,bh),(9,bu),(76,(iv (ad.length:Int))),(77,(iv cr))]∧Mem W ct w (bi::bv::H)) co ⟨_,Z,_,gr,f.k Z,m⟩ ?_
          clear co f m
          rintro cq cu cv cw a w ⟨cr,rfl,ct,cx,f,m⟩
          have bj:=od1 cx bj
          have bw:=od1 cx bw
          refine Ae ?_
          refine Ah f Z Z AR λa f=>Aa (Ag ?_)
          rcases Af cv with⟨cy,cv⟩|⟨cy,cv⟩
          ·refine Al f Z cy ?_
           refine Am ?_
           refine Ag (Ak (Ae ?_))
           refine Ab f Z λa f=>Ac f Z λa f=>AD ?_
           refine Ac f Z λa f=>Aa (Ag (Ae ?_))
           refine Ab f Z λa f=>B4 1 m bw Z underlying60 f Z Z λa f=>Ab f Z λa f=>Aa ?_
           have⟨cz,cA,cv⟩:=bind_some cv
           refine AM (λa w=>∃cB:Int,cB=cz∧∃(cC:GH),GLe ct cC∧Fr a 100 [(8,bh),(9,bu),(11,(.int .u32 cB)),(76,(iv (ad.length:Int))),(77,(iv cr))]∧Mem W cC w (bi::bv::H)) ?_ ?_
           ·refine Ak ?_
            refine AO (λcD a w=>∃cE:Int,∃cF:Int,(cE,cF)=cD∧∃(cG:GH),GLe ct cG∧Fr a 100 [(8,bh),(9,bu),(10,(iv cr)),(11,(.int .u32 cE)),(76,(iv (ad.length:Int))),(77,(iv cr)),(80,bu),(81,(iv (bn.length:Int))),(82,(iv cF))]∧Mem W cG w (bi::bv::H)) cA ⟨_,_,Z,_,gr,f.k Z,m⟩ ?_
            clear cA f m
            rintro cD cH cI cJ a w ⟨cE,cF,rfl,cG,cK,f,m⟩
            have bw:=od1 cK bw
            refine Ae ?_
            refine Ah f Z Z AR λa f=>Aa (Ag ?_)
            rcases Af cI with⟨cL,cI⟩|⟨cL,cI⟩
            ·refine Al f Z cL ?_
             refine Am ?_
             refine Ag (Ak (Ae ?_))
             refine Ab f Z λa f=> ?_
             have⟨cM,cN,cI⟩:=bind_some cI
             refine Bi 1 m bw Z T60 f Z Z Z cN λcO a cP f=>Bk 1 m bw Z BM f Z Z cP cN λcQ a cR f=> ?_
             subst cR
             refine Ac f Z λa f=>Ac f Z λa f=>AD ?_
             refine Ab f Z λa f=>Ab f Z λa f=> ?_
             have⟨cS,cT,cI⟩:=bind_some cI
             refine Bd f Z call40 (Wk.c m cT) λcU w cV m a f=>Aa ?_
             rcases Af cI with⟨cW,cI⟩|⟨cW,cI⟩
             ·refine Al f Z cW ?_
              refine Aj ?_
              refine Ab f Z λa f=>Ab f Z λa f=> ?_
              have⟨cX,cY,cI⟩:=bind_some cI
              refine Bd f Z call38 (Wk.a m cY) λcZ w c0 m a f=>Ah f Z Z Db λa f=>Ac f Z λa f=>Aa (Aj ?_)
              refine Ah f Z Z AB λa f=>Ab f Z λa f=>Aa ?_
              obtain rfl:=sj cI
              exact⟨_,Z,_,_,Z,_,(gt cK (gt cV c0)),f.k Z,m⟩
             ·refine Ai f Z cW ?_
              refine Am ?_
              refine Aj ?_
              refine Ah f Z Z AB λa f=>Ab f Z λa f=>Aa ?_
              obtain rfl:=sj cI
              exact⟨_,Z,_,_,Z,_,(gt cK cV),f.k Z,m⟩
            ·refine Ai f Z cL ?_
             refine AG Z ?_
             obtain rfl:=sj cI
             obtain rfl:=cJ _ rfl
             exact⟨_,Z,_,cK,f.k Z,m⟩
           ·rintro a w ⟨cB,rfl,cC,c1,f,m⟩
            have bj:=od1 c1 bj
            refine Ae ?_
            refine Ab f Z λa f=>Ab f Z λa f=> ?_
            have⟨c2,c3,cv⟩:=bind_some cv
            refine AX f Z call72 (Ow.lendCall (RI.mono _) 0 bj m Z (λc4 c5 m c6=>Wk.X hW m c6 c3) (λ_ _ _ _ h=>h)) λc7 c8 c9 w da m db a f=> ?_
            obtain⟨rfl,rfl⟩:=db
            refine l_o f (By (f.e Z)) λa f=>Aa ?_
            rcases Af cv with⟨dc,cv⟩|⟨dc,cv⟩
            ·refine Al f Z dc ?_
             refine Ae ?_
             refine Ac f Z λa f=>Aa ?_
             refine Ap ?_
             have m:Mem W c8 w H:=Mem.drop (H':=[bi,bv]) m
             obtain rfl:=sj cv
             obtain rfl:=cw _ rfl
             obtain rfl:=sj hd
             exact⟨[(.bool false)],f.g Z,f.d,_,[],(gt ao (gt ar (gt aw (gt az (gt aI (gt a6 (gt a8 (gt bf (gt bl (gt bs (gt bz (gt bI (gt bS (gt cl (gt cx (gt c1 da)))))))))))))))),m,Z,Z⟩
            ·refine Ai f Z dc ?_
             refine Am ?_
             refine Aj ?_
             refine Ah f Z Z AB λa f=>Ab f Z λa f=>Aa ?_
             obtain rfl:=sj cv
             exact⟨_,Z,_,Z,_,(gt cx (gt c1 da)),f.k Z,m⟩
          ·refine Ai f Z cy ?_
           refine AG Z ?_
           have m:Mem W ct w H:=Mem.drop (H':=[bi,bv]) m
           obtain rfl:=sj cv
           obtain rfl:=cw _ rfl
           exact⟨_,Z,_,cx,f.weak trivial,m⟩
         ·rintro a w ⟨_,rfl,cp,dd,f,m⟩
          refine Ae ?_
          refine Ac f Z λa f=>Aa ?_
          refine Ap ?_
          obtain rfl:=sj hd
          exact⟨[(.bool true)],f.g Z,f.d,_,[],(gt ao (gt ar (gt aw (gt az (gt aI (gt a6 (gt a8 (gt bf (gt bl (gt bs (gt bz (gt bI (gt bS (gt cl dd)))))))))))))),m,Z,Z⟩
theorem Wk.M0 {v0:Value}{x0:LI}(m:Mem W G w (H))(h0:R1 G v0 x0){y:Bool}(hd:D.M0 x0=some y):
  Calls prog 25 #[v0] w (Res W G H (λ_ Ho v=>Ho=[]∧v=(.bool y))):=by
 refine Au (args:=[v0]) (N:=6) [.tmp 2] func25 Z Z (lb Z) Z λa f=> ?_
 unfold D.M0 at hd
 refine Ae ?_
 refine Ac f Z λa f=>AD ?_
 refine Ab f Z λa f=>AL underlying35 f Z Z h0 λa f=>Ah f Z Z Cz λa f=>Ac f Z λa f=>Aa ?_
 refine Ap ?_
 obtain rfl:=sj hd
 exact⟨[(.bool (decide ((8:Int)<(x0.length:Int))))],f.g Z,f.d,_,[],gr,m,Z,Z⟩
theorem Wk.i {b0:Nat}{aa:Value}{ab:Itm}{ac:Value}{ad:Itm}{ae:Value}{af:Itm}{ag:Value}{ah:Itm}{ai aj:Value}{ak al:LI}{am an:LL}{ao ap:LI}(m:Mem W G w (ib b0 65 [aa,ac,ae,ag,ai,aj]::ab::ad::af::ah::H))(aq:Ow R0 2 G ab aa ak)(ar:Ow R0 2 G ad ac al)(au:Ow R1 35 G af ae am)(av:Ow R1 35 G ah ag an)(aw:RSl (RI .u32) G ai ao)(ax:RSl (RI .u32) G aj ap){y:Int×(LI)×(LI)×(LL)×(LL)}(hd:D.i ak al am an ao ap=some y):
  Calls prog 79 #[(pb b0)] w (Res W G H (λG' Ho v=>∃r0:Value,∃i0:Itm,∃r2:Value,∃i2:Itm,∃r4:Value,∃i4:Itm,∃r6:Value,∃i6:Itm,Ho=[ib b0 65 [r0,r2,r4,r6,ai,aj],i0,i2,i4,i6]∧v=(iv y.1)∧Ow R0 2 G' i0 r0 y.2.1∧Ow R0 2 G' i2 r2 y.2.2.1∧Ow R1 35 G' i4 r4 y.2.2.2.1∧Ow R1 35 G' i6 r6 y.2.2.2.2)):=by
 refine Au (args:=[(pb b0)]) (N:=10) [.tmp 2] func79 Z Z (lb Z) Z λa f=> ?_
 unfold D.i at hd
 refine Ae ?_
 refine Ac f Z λa f=>AD ?_
 refine Ab f Z λa f=>l_o f (Bg (f.e Z)) λa f=>AW underlying65 Z sizeOf38 f Z λa f=>AW underlying38 Z sizeOf35 f Z λa f=>As 0 0 m Ba f Z Z Z Z λa f=>B4 1 m aq Z underlying35 f Z Z λa f=>Ah f Z Z Ck λa f=>Ac f Z λa f=>Aa ?_
 refine Ap ?_
 obtain rfl:=sj hd
 exact⟨[(iv (i64.wrap ((ak.length:Int)-1)))],f.g Z,f.d,_,[ib b0 65 [aa,ac,ae,ag,ai,aj],ab,ad,af,ah],gr,m,_,_,_,_,_,_,_,_,Z,Z,aq,ar,au,av⟩
theorem Wk.a0 {v0:Value}{x0:LI}(m:Mem W G w (H))(h0:R1 G v0 x0){y:(LI)}(hd:D.a0 x0=some y):
  Calls prog 99 #[v0] w (Res W G H (λG' Ho v=>∃r0:Value,∃i0:Itm,Ho=[i0]∧r0=v∧Ow R0 2 G' i0 r0 y)):=by
 refine Au (args:=[v0]) (N:=21) [.tmp 2] func99 Z Z (lb Z) Z λa f=> ?_
 unfold D.a0 at hd
 refine Ae ?_
 refine Ac f Z λa f=>AD ?_
 refine Ab f Z λa f=>AL underlying89 f Z Z h0 λa f=> ?_
 have⟨aa,ab,hd⟩:=bind_some hd
 refine Co (R:=R0) m T35 Z (by decide) Z f Z Z Z ab λac ad w a m ae f=>Ac f Z λa f=>Aa (Ag (Ae ?_))
 refine Ab f Z λa f=>AL underlying89 f Z Z h0 λa f=>Ab f Z λa f=>Aa ?_
 have⟨af,ag,hd⟩:=bind_some hd
 refine AM (λa w=>∃ah:LI,ah=af∧∃(ai:GH) (aj:Value) (ak:Itm),GLe G ai∧Fr a 21 [(3,aj)]∧Mem W ai w (ak::H)∧Ow R0 2 ai ak aj ah) ?_ ?_
 ·refine Ak ?_
  refine AO (λal a w=>∃am:LI,∃an:Int,(am,an)=al∧∃(ao:GH) (ap:Value) (aq:Itm),GLe G ao∧Fr a 21 [(3,ap),(9,v0),(10,(iv (x0.length:Int))),(11,(iv an))]∧Mem W ao w (aq::H)∧Ow R0 2 ao aq ap am) ag ⟨_,_,Z,_,ad,ac,gr,f.k Z,m,ae⟩ ?_
  clear ag f m
  rintro al ar au av a w ⟨am,an,rfl,ao,ap,aq,aw,f,m,ax⟩
  have h0:=rd1 aw h0
  refine Ae ?_
  refine Ah f Z Z AR λa f=>Aa (Ag ?_)
  rcases Af au with⟨ay,au⟩|⟨ay,au⟩
  ·refine Al f Z ay ?_
   refine Am ?_
   refine Ag (Ak (Ae ?_))
   have⟨az,aA,au⟩:=bind_some au
   refine A4 T89 f Z Z Z h0 aA λaB aC a aD aE f=> ?_
   subst aE
   refine Ax m Pl3 f Z Z aD λa f=>Ac f Z λa f=>Aa (Aj ?_)
   refine Ab f Z λa f=>Ab f Z λa f=>A7 (R:=R0) (xs:=([az]:LI)) (RI.one _) m T35 f Z Z Z (by decide) (All2.cons Z (All2.nil _)) λaF aG w a m aH f=> ?_
   have⟨aI,aJ,au⟩:=bind_some au
   refine Bh (RI.one _) 1 m ax Z T35 Z (by decide) f Z Z Z (Ow.src (j:=0) aH m Z) aJ λaK aL w a m aM f=>Ac f Z λa f=>Aa (Aj ?_)
   refine Ah f Z Z AB λa f=>Ab f Z λa f=>Aa ?_
   have m:=m.fr 1
   have m:=m.eraseAt 1
   obtain rfl:=sj au
   exact⟨_,Z,_,_,Z,_,aL,aK,aw,f.k Z,m,aM⟩
  ·refine Ai f Z ay ?_
   refine AG Z ?_
   obtain rfl:=sj au
   obtain rfl:=av _ rfl
   exact⟨_,Z,_,ap,aq,aw,f.k Z,m,ax⟩
 ·rintro a w ⟨ah,rfl,ai,aj,ak,aN,f,m,aO⟩
  refine Ae ?_
  refine Ab f Z λa f=>Ac f Z λa f=>Aa ?_
  refine Ap ?_
  obtain rfl:=sj hd
  exact⟨[aj],f.g Z,f.d,_,[ak],aN,m,_,_,Z,Z,aO⟩
theorem Wk.F0 {x0:Int}(hW:Dc W)(m:Mem W G w (H)){y:(LI)}(hd:D.F0 x0=some y):
  Calls prog 98 #[(.int .u32 x0)] w (Res W G H (λG' Ho v=>∃r0:Value,∃i0:Itm,Ho=[i0]∧r0=v∧Ow R0 2 G' i0 r0 y)):=by
 refine Au (args:=[(.int .u32 x0)]) (N:=6) [.tmp 2] func98 Z Z (lb Z) Z λa f=> ?_
 unfold D.F0 at hd
 refine Ae ?_
 refine Ac f Z λa f=>AD ?_
 refine Ab f Z λa f=> ?_
 have⟨aa,ab,hd⟩:=bind_some hd
 refine AX f Z call47 (Wk.h hW m ab) λac ad ae w af m ag a f=> ?_
 obtain⟨ah,ai,rfl,rfl,aj⟩:=ag
 have⟨ak,al,hd⟩:=bind_some hd
 refine AX f Z call99 (Ow.lendCall (RI.mono _) 0 aj m Z (λam an m ao=>Wk.a0 m ao al) (λ_ G' _ _ ⟨a0,a1,e1,e2,o0⟩=>⟨a0,a1,e1,e2,Ow.free (RI.free _) G' o0⟩)) λap aq ar w au m av a f=> ?_
 obtain⟨aw,ax,rfl,rfl,ay⟩:=av
 refine Ac f Z λa f=>Aa ?_
 refine Ap ?_
 have m:=m.eraseAt 1
 obtain rfl:=sj hd
 exact⟨[aw],f.g Z,f.d,_,[ax],(gt af au),m,_,_,Z,Z,ay⟩
theorem Wk.j {b0:Nat}{aa:Value}{ab:Itm}{ac:Value}{ad:Itm}{ae:Value}{af:Itm}{ag:Value}{ah:Itm}{ai aj v4:Value}{ak al:LI}{am an:LL}{ao ap:LI}{x1 x2 x3:Int}{x4:LI}(hW:Dc W)(m:Mem W G w (ib b0 65 [aa,ac,ae,ag,ai,aj]::ab::ad::af::ah::H))(aq:Ow R0 2 G ab aa ak)(ar:Ow R0 2 G ad ac al)(au:Ow R1 35 G af ae am)(av:Ow R1 35 G ah ag an)(aw:RSl (RI .u32) G ai ao)(ax:RSl (RI .u32) G aj ap)(h4:R1 G v4 x4){y:(LI)×(LI)×(LL)×(LL)}(hd:D.j ak al am an ao ap x1 x2 x3 x4=some y):
  Calls prog 78 #[(pb b0),(iv x1),(iv x2),(.int .u32 x3),v4] w (Res W G H (λG' Ho _=>∃r0:Value,∃i0:Itm,∃r2:Value,∃i2:Itm,∃r4:Value,∃i4:Itm,∃r6:Value,∃i6:Itm,Ho=[ib b0 65 [r0,r2,r4,r6,ai,aj],i0,i2,i4,i6]∧Ow R0 2 G' i0 r0 y.1∧Ow R0 2 G' i2 r2 y.2.1∧Ow R1 35 G' i4 r4 y.2.2.1∧Ow R1 35 G' i6 r6 y.2.2.2)):=by
 refine Au (args:=[(pb b0),(iv x1),(iv x2),(.int .u32 x3),v4]) (N:=60) [] func78 Z Z (lb Z) Z λa f=> ?_
 unfold D.j at hd
 refine Ae ?_
 refine Ab f Z λa f=>Ab f Z λa f=>l_o f (Bg (f.e Z)) λa f=>AW underlying65 Z sizeOf38 f Z λa f=>AW underlying38 Z sizeOf35 f Z λa f=>As 0 0 m Ba f Z Z Z Z λa f=>Ab f Z λa f=>A7 (R:=R0) (xs:=([x1]:LI)) (RI.one _) m T35 f Z Z Z (by decide) (All2.cons Z (All2.nil _)) λay az w a m aA f=> ?_
 have⟨aB,aC,hd⟩:=bind_some hd
 refine Bh (RI.one _) 2 m aq Z T35 Z (by decide) f Z Z Z (Ow.src (j:=0) aA m Z) aC λaD aE w a m aF f=>l_o f (Bg (f.e Z)) λa f=>AW underlying65 Z sizeOf38 f Z λa f=>AW underlying38 Z sizeOf35 f Z λa f=>AA 1 0 (ds:=[aE]) m sizeOf35 f Z Z (Ow.cells 2 m aF Z) (Ao (Ow.one1 2 m aF Z) AK) Z (lb Z) Z λw m=>AD ?_
 refine Ab f Z λa f=>Ab f Z λa f=>l_o f (Bg (f.e Z)) λa f=>AW underlying65 Z sizeOf38 f Z λa f=>AW underlying38 Z sizeOf35 f Z λa f=>As 1 1 m Ba f Z Z Z Z λa f=>Ab f Z λa f=>A7 (R:=R0) (xs:=([x2]:LI)) (RI.one _) m T35 f Z Z Z (by decide) (All2.cons Z (All2.nil _)) λaG aH w a m aI f=> ?_
 have⟨aJ,aK,hd⟩:=bind_some hd
 refine Bh (RI.one _) 4 m ar Z T35 Z (by decide) f Z Z Z (Ow.src (j:=0) aI m Z) aK λaL aM w a m aN f=>l_o f (Bg (f.e Z)) λa f=>AW underlying65 Z sizeOf38 f Z λa f=>AW underlying38 Z sizeOf35 f Z λa f=>AA 2 1 (ds:=[aM]) m sizeOf35 f Z Z (Ow.cells 4 m aN Z) (Ao (Ow.one1 4 m aN Z) AK) Z (lb Z) Z λw m=>Aa (Ag ?_)
 refine k_draw0 AU m ?_
 refine p_p 0 Z f (λ_=>r_move (f.e Z)) λa f=>k_draw1 1009 8 (by kernel_rfl) Z ?_
 refine An 1 1009 Z f Z λa f=>q_p 2 1009 Z f (λ_=>Bg (f.e Z)) λa f=>Bt 3 1009 underlying65 Z sizeOf38 Z f Z λa f=>Bt 4 1009 underlying38 Z sizeOf27 Z f Z λa f=>Br 5 1009 2 Be Z Z Z f Z λa f=>An 6 1009 Z f Z λa f=>BC 7 Z λaO w aP m aQ aQ=> ?_
 have h4:=rd1 aP h4
 have aF:=od1 aP aF
 have aN:=od1 aP aN
 have au:=Ow.mono (RSl.mono (RI.mono _)) aP au
 have av:=Ow.mono (RSl.mono (RI.mono _)) aP av
 have⟨aR,aS,hd⟩:=bind_some hd
 refine AX f Z call98 (Wk.F0 hW m aS) λaT aU aV w aW m aX a f=> ?_
 obtain⟨aY,aZ,rfl,rfl,a0⟩:=aX
 have h4:=rd1 aW h4
 have aF:=od1 aW aF
 have aN:=od1 aW aN
 have au:=Ow.mono (RSl.mono (RI.mono _)) aW au
 have av:=Ow.mono (RSl.mono (RI.mono _)) aW av
 refine Aa ?_
 refine aQ aU [aZ] _ _ aW m ?_
 refine BC 8 Z λa1 w a2 m a3 a3=> ?_
 have h4:=rd1 a2 h4
 have a0:=od1 a2 a0
 have aF:=od1 a2 aF
 have aN:=od1 a2 aN
 have au:=Ow.mono (RSl.mono (RI.mono _)) a2 au
 have av:=Ow.mono (RSl.mono (RI.mono _)) a2 av
 obtain⟨a4,a5,m,a6⟩:=Ow.stamp (RI.mono _) a0 m
 have h4:=rd1 a5 h4
 have aF:=od1 a5 aF
 have aN:=od1 a5 aN
 have au:=Ow.mono (RSl.mono (RI.mono _)) a5 au
 have av:=Ow.mono (RSl.mono (RI.mono _)) a5 av
 refine A7 (R:=R1) (xs:=([aR]:LL)) (RSl.one _) m T27 f Z Z Z (by decide) (All2.cons a6 (All2.nil _)) λa7 a8 w a m a9 f=>Aa ?_
 refine a3 a4 [a7] _ _ a5 m ?_
 refine A2 λba w bb m=> ?_
 have h4:=rd1 bb h4
 have a9:=Ow.mono (RSl.mono (RI.mono _)) bb a9
 have aF:=od1 bb aF
 have aN:=od1 bb aN
 have au:=Ow.mono (RSl.mono (RI.mono _)) bb au
 have av:=Ow.mono (RSl.mono (RI.mono _)) bb av
 have⟨bc,bd,hd⟩:=bind_some hd
 refine Bh (RSl.one _) 6 m au Z T27 Z (by decide) f Z Z Z (Ow.src (j:=0) a9 m Z) bd λbe bf w a m bg f=>l_o f (Bg (f.e Z)) λa f=>AW underlying65 Z sizeOf38 f Z λa f=>AW underlying38 Z sizeOf27 f Z λa f=>AA 3 2 (ds:=[bf]) m sizeOf27 f Z Z (Ow.cells 6 m bg Z) (Ao (Ow.one1 6 m bg Z) AK) Z (lb Z) Z λw m=>Aa ?_
 refine k_draw0 AU m ?_
 refine p_p 0 Z f (λ_=>r_move (f.e Z)) λa f=>k_draw1 1009 8 (by kernel_rfl) Z ?_
 refine An 1 1009 Z f Z λa f=>q_p 2 1009 Z f (λ_=>Bg (f.e Z)) λa f=>Bt 3 1009 underlying65 Z sizeOf38 Z f Z λa f=>Bt 4 1009 underlying38 Z sizeOf27 Z f Z λa f=>Br 5 1009 3 Be Z Z Z f Z λa f=>An 6 1009 Z f Z λa f=>BC 7 Z λbh w bi m bj bj=> ?_
 have h4:=rd1 bi h4
 have aF:=od1 bi aF
 have aN:=od1 bi aN
 have bg:=Ow.mono (RSl.mono (RI.mono _)) bi bg
 have av:=Ow.mono (RSl.mono (RI.mono _)) bi av
 have⟨bk,bl,hd⟩:=bind_some hd
 refine AX f Z call99 (Wk.a0 m h4 bl) λbm bn bo w bp m bq a f=> ?_
 obtain⟨br,bs,rfl,rfl,bt⟩:=bq
 have aF:=od1 bp aF
 have aN:=od1 bp aN
 have bg:=Ow.mono (RSl.mono (RI.mono _)) bp bg
 have av:=Ow.mono (RSl.mono (RI.mono _)) bp av
 refine Aa ?_
 refine bj bn [bs] _ _ bp m ?_
 refine BC 8 Z λbu w bv m bw bw=> ?_
 have bt:=od1 bv bt
 have aF:=od1 bv aF
 have aN:=od1 bv aN
 have bg:=Ow.mono (RSl.mono (RI.mono _)) bv bg
 have av:=Ow.mono (RSl.mono (RI.mono _)) bv av
 obtain⟨bx,bz,m,bA⟩:=Ow.stamp (RI.mono _) bt m
 have aF:=od1 bz aF
 have aN:=od1 bz aN
 have bg:=Ow.mono (RSl.mono (RI.mono _)) bz bg
 have av:=Ow.mono (RSl.mono (RI.mono _)) bz av
 refine A7 (R:=R1) (xs:=([bk]:LL)) (RSl.one _) m T27 f Z Z Z (by decide) (All2.cons bA (All2.nil _)) λbB bC w a m bD f=>Aa ?_
 refine bw bx [bB] _ _ bz m ?_
 refine A2 λbE w bF m=> ?_
 have bD:=Ow.mono (RSl.mono (RI.mono _)) bF bD
 have aF:=od1 bF aF
 have aN:=od1 bF aN
 have bg:=Ow.mono (RSl.mono (RI.mono _)) bF bg
 have av:=Ow.mono (RSl.mono (RI.mono _)) bF av
 have⟨bG,bH,hd⟩:=bind_some hd
 refine Bh (RSl.one _) 8 m av Z T27 Z (by decide) f Z Z Z (Ow.src (j:=0) bD m Z) bH λbI bJ w a m bK f=>l_o f (Bg (f.e Z)) λa f=>AW underlying65 Z sizeOf38 f Z λa f=>AW underlying38 Z sizeOf27 f Z λa f=>AA 4 3 (ds:=[bJ]) m sizeOf27 f Z Z (Ow.cells 8 m bK Z) (Ao (Ow.one1 8 m bK Z) AK) Z (lb Z) Z λw m=>Aa ?_
 have m:=m.fr 8
 have m:=m.fr 8
 have m:Mem W bE w (aL::be::bI::bB::a7::aG::ay::ib b0 65 [aE,aM,bf,bJ,ai,aj]::aD::H):=m.fr 8
 have m:=m.fr 8
 have m:=m.fr 8
 have m:Mem W bE w (ib b0 65 [aE,aM,bf,bJ,ai,aj]::aD::aL::be::bI::bB::a7::aG::H):=m.eraseAt 8
 have m:=m.eraseAt 7
 have m:=m.eraseAt 6
 have m:Mem W bE w (ib b0 65 [aE,aM,bf,bJ,ai,aj]::aD::aL::be::bI::H):=m.eraseAt 5
 obtain rfl:=sj hd
 exact⟨[],trivial,f.d,_,[ib b0 65 [aE,aM,bf,bJ,ai,aj],aD,aL,be,bI],(gt aP (gt aW (gt a2 (gt a5 (gt bb (gt bi (gt bp (gt bv (gt bz bF))))))))),m,_,_,_,_,_,_,_,_,Z,aF,aN,bg,bK⟩
theorem Wk.I {b0:Nat}{aa:Value}{ab:Itm}{ac:Value}{ad:Itm}{ae:Value}{af:Itm}{ag:Value}{ah:Itm}{ai aj:Value}{ak al:LI}{am an:LL}{ao ap:LI}{x1 x2:Int}(hW:Dc W)(m:Mem W G w (ib b0 65 [aa,ac,ae,ag,ai,aj]::ab::ad::af::ah::H))(aq:Ow R0 2 G ab aa ak)(ar:Ow R0 2 G ad ac al)(au:Ow R1 35 G af ae am)(av:Ow R1 35 G ah ag an)(aw:RSl (RI .u32) G ai ao)(ax:RSl (RI .u32) G aj ap){y:(LI)×(LI)×(LL)×(LL)}(hd:D.I ak al am an ao ap x1 x2=some y):
  Calls prog 29 #[(pb b0),(.int .u32 x1),(.int .u32 x2)] w (Res W G H (λG' Ho _=>∃r0:Value,∃i0:Itm,∃r2:Value,∃i2:Itm,∃r4:Value,∃i4:Itm,∃r6:Value,∃i6:Itm,Ho=[ib b0 65 [r0,r2,r4,r6,ai,aj],i0,i2,i4,i6]∧Ow R0 2 G' i0 r0 y.1∧Ow R0 2 G' i2 r2 y.2.1∧Ow R1 35 G' i4 r4 y.2.2.1∧Ow R1 35 G' i6 r6 y.2.2.2)):=by
 refine Au (args:=[(pb b0),(.int .u32 x1),(.int .u32 x2)]) (N:=52) [] func29 Z Z (lb Z) Z λa f=> ?_
 unfold D.I at hd
 refine Ag (Ae ?_)
 refine Ab f Z λa f=>Ab f Z λa f=>Ah f Z Z CN λa f=> ?_
 have⟨ay,az,hd⟩:=bind_some hd
 refine AX f Z call47 (Wk.h hW m az) λaA aB aC w aD m aE a f=> ?_
 obtain⟨aF,aG,rfl,rfl,aH⟩:=aE
 have aw:=rd1 aD aw
 have ax:=rd1 aD ax
 have aq:=od1 aD aq
 have ar:=od1 aD ar
 have au:=Ow.mono (RSl.mono (RI.mono _)) aD au
 have av:=Ow.mono (RSl.mono (RI.mono _)) aD av
 refine B4 0 m aH Z underlying89 f Z Z λa f=>Ab f Z λa f=>Aa ?_
 have⟨aI,aJ,hd⟩:=bind_some hd
 refine AM (λa w=>∃aK:Int,∃aL:LI,∃aM:LI,∃aN:LL,∃aO:LL,(aK,aL,aM,aN,aO)=aI∧∃(aP:GH) (aQ:Value) (aR:Itm) (aS:Value) (aT:Itm) (aU:Value) (aV:Itm) (aW:Value) (aX:Itm),GLe aB aP∧Fr a 52 [(0,(pb b0)),(1,(.int .u32 aK)),(2,(.int .u32 x2))]∧Mem W aP w (ib b0 65 [aQ,aS,aU,aW,ai,aj]::aR::aT::aV::aX::H)∧Ow R0 2 aP aR aQ aL∧Ow R0 2 aP aT aS aM∧Ow R1 35 aP aV aU aN∧Ow R1 35 aP aX aW aO) ?_ ?_
 ·refine Ak ?_
  have m:Mem W aB w (ib b0 65 [aa,ac,ae,ag,ai,aj]::aG::ab::ad::af::ah::H):=m.fr 1
  refine AO (λaY a w=>∃aZ:Int,∃a0:Int,∃a1:LI,∃a2:LI,∃a3:LL,∃a4:LL,(aZ,a0,a1,a2,a3,a4)=aY∧∃(a5:GH) (a6:Value) (a7:Itm) (a8:Value) (a9:Itm) (ba:Value) (bb:Itm) (bc:Value) (bd:Itm),GLe aB a5∧Fr a 52 [(0,(pb b0)),(1,(.int .u32 aZ)),(2,(.int .u32 x2)),(13,aF),(14,(iv (ay.length:Int))),(15,(iv a0))]∧Mem W a5 w (ib b0 65 [a6,a8,ba,bc,ai,aj]::aG::a7::a9::bb::bd::H)∧Ow R0 2 a5 a7 a6 a1∧Ow R0 2 a5 a9 a8 a2∧Ow R1 35 a5 bb ba a3∧Ow R1 35 a5 bd bc a4) aJ ⟨_,_,_,_,_,_,Z,_,aa,ab,ac,ad,ae,af,ag,ah,gr,f.k Z,m,aq,ar,au,av⟩ ?_
  clear aJ f m
  rintro aY be bf bg a w ⟨aZ,a0,a1,a2,a3,a4,rfl,a5,a6,a7,a8,a9,ba,bb,bc,bd,bh,f,m,bi,bj,bk,bl⟩
  have aw:=rd1 bh aw
  have ax:=rd1 bh ax
  have aH:=od1 bh aH
  refine Ae ?_
  refine Ah f Z Z AR λa f=>Aa (Ag ?_)
  rcases Af bf with⟨bm,bf⟩|⟨bm,bf⟩
  ·refine Al f Z bm ?_
   refine Am ?_
   refine Ag (Ak (Ae ?_))
   have⟨bn,bo,bf⟩:=bind_some bf
   refine Bi 1 m aH Z T89 f Z Z Z bo λbp a bq f=>Bk 1 m aH Z Pl3 f Z Z bq bo λbr a bs f=> ?_
   subst bs
   refine Ac f Z λa f=>AD ?_
   refine Ab f Z λa f=>Ab f Z λa f=> ?_
   have⟨bt,bu,bf⟩:=bind_some bf
   refine Bd f Z call38 (Wk.a m bu) λbv w bw m a f=> ?_
   have aw:=rd1 bw aw
   have ax:=rd1 bw ax
   have bi:=od1 bw bi
   have bj:=od1 bw bj
   have bk:=Ow.mono (RSl.mono (RI.mono _)) bw bk
   have bl:=Ow.mono (RSl.mono (RI.mono _)) bw bl
   refine Ah f Z Z CN λa f=>Ac f Z λa f=>Aa (Aj ?_)
   refine Ab f Z λa f=>Ab f Z λa f=>Ab f Z λa f=>Ab f Z λa f=> ?_
   have m:=m.fr 5
   have m:=m.fr 5
   have m:Mem W bv w (a9::bb::bd::ib b0 65 [a6,a8,ba,bc,ai,aj]::aG::a7::H):=m.fr 5
   have m:=m.fr 5
   have m:Mem W bv w (ib b0 65 [a6,a8,ba,bc,ai,aj]::a7::a9::bb::bd::aG::H):=m.fr 4
   have⟨bx,bz,bf⟩:=bind_some bf
   refine AX f Z call79 (Wk.i m bi bj bk bl aw ax bz) λbA bB bC w bD m bE a f=> ?_
   obtain⟨bF,bG,bH,bI,bJ,bK,bL,bM,rfl,rfl,bN,bO,bP,bQ⟩:=bE
   have aw:=rd1 bD aw
   have ax:=rd1 bD ax
   refine A7 (R:=R0) (xs:=([bx.1]:LI)) (RI.one _) m T89 f Z Z Z (by decide) (All2.cons Z (All2.nil _)) λbR bS w a m bT f=> ?_
   obtain⟨bU,bV,m,bW⟩:=Ow.stamp (RI.mono _) bT m
   have aw:=rd1 bV aw
   have ax:=rd1 bV ax
   have bN:=od1 bV bN
   have bO:=od1 bV bO
   have bP:=Ow.mono (RSl.mono (RI.mono _)) bV bP
   have bQ:=Ow.mono (RSl.mono (RI.mono _)) bV bQ
   have⟨bX,bY,bf⟩:=bind_some bf
   refine AX f Z call78 (Wk.j hW m bN bO bP bQ aw ax bW bY) λbZ b1 b2 w b3 m b4 a f=> ?_
   obtain⟨b5,b6,b7,b8,b9,ca,cb,cc,rfl,cd,ce,cf,cg⟩:=b4
   refine Aa (Aj ?_)
   refine Ah f Z Z AB λa f=>Ab f Z λa f=>Aa ?_
   have m:=m.fr 5
   have m:Mem W b1 w (ib b0 65 [b5,b7,b9,cb,ai,aj]::aG::b6::b8::ca::cc::H):=m.fr 1
   obtain rfl:=sj bf
   exact⟨_,Z,_,_,_,_,_,_,Z,_,b5,b6,b7,b8,b9,ca,cb,cc,(gt bh (gt bw (gt bD (gt bV b3)))),f.k Z,m,cd,ce,cf,cg⟩
  ·refine Ai f Z bm ?_
   refine AG Z ?_
   have m:=m.fr 5
   have m:=m.fr 5
   have m:Mem W a5 w (a9::bb::bd::ib b0 65 [a6,a8,ba,bc,ai,aj]::aG::a7::H):=m.fr 5
   have m:=m.fr 5
   have m:=m.fr 4
   have m:Mem W a5 w (ib b0 65 [a6,a8,ba,bc,ai,aj]::a7::a9::bb::bd::H):=m.eraseAt 5
   obtain rfl:=sj bf
   obtain rfl:=bg _ rfl
   exact⟨_,_,_,_,_,Z,_,a6,a7,a8,a9,ba,bb,bc,bd,bh,f.k Z,m,bi,bj,bk,bl⟩
 ·rintro a w ⟨aK,aL,aM,aN,aO,rfl,aP,aQ,aR,aS,aT,aU,aV,aW,aX,ch,f,m,ci,cj,ck,cl⟩
  have aw:=rd1 ch aw
  have ax:=rd1 ch ax
  refine Ae ?_
  refine Ab f Z λa f=>Ab f Z λa f=>Ah f Z Z CN λa f=> ?_
  have⟨cm,cn,hd⟩:=bind_some hd
  refine AX f Z call47 (Wk.h hW m cn) λco cp cq w cr m cs a f=> ?_
  obtain⟨ct,cu,rfl,rfl,cv⟩:=cs
  have aw:=rd1 cr aw
  have ax:=rd1 cr ax
  have ci:=od1 cr ci
  have cj:=od1 cr cj
  have ck:=Ow.mono (RSl.mono (RI.mono _)) cr ck
  have cl:=Ow.mono (RSl.mono (RI.mono _)) cr cl
  refine B4 0 m cv Z underlying89 f Z Z λa f=>Ab f Z λa f=>Aa ?_
  have⟨cw,cx,hd⟩:=bind_some hd
  refine AM (λa w=>∃cy:LI,∃cz:LI,∃cA:LL,∃cB:LL,(cy,cz,cA,cB)=cw∧∃(cC:GH) (cD:Value) (cE:Itm) (cF:Value) (cG:Itm) (cH:Value) (cI:Itm) (cJ:Value) (cK:Itm),GLe cp cC∧Fr a 52 []∧Mem W cC w (ib b0 65 [cD,cF,cH,cJ,ai,aj]::cE::cG::cI::cK::H)∧Ow R0 2 cC cE cD cy∧Ow R0 2 cC cG cF cz∧Ow R1 35 cC cI cH cA∧Ow R1 35 cC cK cJ cB) ?_ ?_
  ·refine Ak ?_
   have m:Mem W cp w (ib b0 65 [aQ,aS,aU,aW,ai,aj]::cu::aR::aT::aV::aX::H):=m.fr 1
   refine AO (λcL a w=>∃cM:Int,∃cN:Int,∃cO:LI,∃cP:LI,∃cQ:LL,∃cR:LL,(cM,cN,cO,cP,cQ,cR)=cL∧∃(cS:GH) (cT:Value) (cU:Itm) (cV:Value) (cW:Itm) (cX:Value) (cY:Itm) (cZ:Value) (c0:Itm),GLe cp cS∧Fr a 52 [(0,(pb b0)),(1,(.int .u32 cM)),(34,ct),(35,(iv (cm.length:Int))),(36,(iv cN))]∧Mem W cS w (ib b0 65 [cT,cV,cX,cZ,ai,aj]::cu::cU::cW::cY::c0::H)∧Ow R0 2 cS cU cT cO∧Ow R0 2 cS cW cV cP∧Ow R1 35 cS cY cX cQ∧Ow R1 35 cS c0 cZ cR) cx ⟨_,_,_,_,_,_,Z,_,aQ,aR,aS,aT,aU,aV,aW,aX,gr,f.k Z,m,ci,cj,ck,cl⟩ ?_
   clear cx f m
   rintro cL c1 c2 c3 a w ⟨cM,cN,cO,cP,cQ,cR,rfl,cS,cT,cU,cV,cW,cX,cY,cZ,c0,c4,f,m,c5,c6,c7,c8⟩
   have aw:=rd1 c4 aw
   have ax:=rd1 c4 ax
   have cv:=od1 c4 cv
   refine Ae ?_
   refine Ah f Z Z AR λa f=>Aa (Ag ?_)
   rcases Af c2 with⟨c9,c2⟩|⟨c9,c2⟩
   ·refine Al f Z c9 ?_
    refine Am ?_
    refine Ag (Ak (Ae ?_))
    have⟨da,db,c2⟩:=bind_some c2
    refine Bi 1 m cv Z T89 f Z Z Z db λdc a dd f=>Bk 1 m cv Z Pl3 f Z Z dd db λde a df f=> ?_
    subst df
    refine Ac f Z λa f=>AD ?_
    refine Ab f Z λa f=>Ab f Z λa f=> ?_
    have⟨dg,dh,c2⟩:=bind_some c2
    refine Bd f Z call38 (Wk.a m dh) λdi w dj m a f=> ?_
    have aw:=rd1 dj aw
    have ax:=rd1 dj ax
    have c5:=od1 dj c5
    have c6:=od1 dj c6
    have c7:=Ow.mono (RSl.mono (RI.mono _)) dj c7
    have c8:=Ow.mono (RSl.mono (RI.mono _)) dj c8
    refine Ah f Z Z Db λa f=>Ac f Z λa f=>Aa (Aj ?_)
    refine Ab f Z λa f=>Ab f Z λa f=>Ab f Z λa f=>Ab f Z λa f=> ?_
    have m:=m.fr 5
    have m:=m.fr 5
    have m:Mem W di w (cW::cY::c0::ib b0 65 [cT,cV,cX,cZ,ai,aj]::cu::cU::H):=m.fr 5
    have m:=m.fr 5
    have m:Mem W di w (ib b0 65 [cT,cV,cX,cZ,ai,aj]::cU::cW::cY::c0::cu::H):=m.fr 4
    have⟨dk,dl,c2⟩:=bind_some c2
    refine AX f Z call79 (Wk.i m c5 c6 c7 c8 aw ax dl) λdm dn dp w dq m dr a f=> ?_
    obtain⟨ds,dt,du,dv,dw,dx,dy,dz,rfl,rfl,dA,dB,dC,dD⟩:=dr
    have aw:=rd1 dq aw
    have ax:=rd1 dq ax
    refine A7 (R:=R0) (xs:=([dk.1]:LI)) (RI.one _) m T89 f Z Z Z (by decide) (All2.cons Z (All2.nil _)) λdE dF w a m dG f=> ?_
    obtain⟨dH,dI,m,dJ⟩:=Ow.stamp (RI.mono _) dG m
    have aw:=rd1 dI aw
    have ax:=rd1 dI ax
    have dA:=od1 dI dA
    have dB:=od1 dI dB
    have dC:=Ow.mono (RSl.mono (RI.mono _)) dI dC
    have dD:=Ow.mono (RSl.mono (RI.mono _)) dI dD
    have⟨dK,dL,c2⟩:=bind_some c2
    refine AX f Z call78 (Wk.j hW m dA dB dC dD aw ax dJ dL) λdM dN dO w dP m dQ a f=> ?_
    obtain⟨dR,dS,dT,dU,dV,dW,dX,dY,rfl,dZ,d0,d1,d2⟩:=dQ
    refine Aa (Aj ?_)
    refine Ah f Z Z AB λa f=>Ab f Z λa f=>Aa ?_
    have m:=m.fr 5
    have m:Mem W dN w (ib b0 65 [dR,dT,dV,dX,ai,aj]::cu::dS::dU::dW::dY::H):=m.fr 1
    obtain rfl:=sj c2
    exact⟨_,Z,_,_,_,_,_,_,Z,_,dR,dS,dT,dU,dV,dW,dX,dY,(gt c4 (gt dj (gt dq (gt dI dP)))),f.k Z,m,dZ,d0,d1,d2⟩
   ·refine Ai f Z c9 ?_
    refine AG Z ?_
    have m:=m.fr 5
    have m:=m.fr 5
    have m:Mem W cS w (cW::cY::c0::ib b0 65 [cT,cV,cX,cZ,ai,aj]::cu::cU::H):=m.fr 5
    have m:=m.fr 5
    have m:=m.fr 4
    have m:Mem W cS w (ib b0 65 [cT,cV,cX,cZ,ai,aj]::cU::cW::cY::c0::H):=m.eraseAt 5
    obtain rfl:=sj c2
    obtain rfl:=c3 _ rfl
    exact⟨_,_,_,_,Z,_,cT,cU,cV,cW,cX,cY,cZ,c0,c4,f.weak trivial,m,c5,c6,c7,c8⟩
  ·rintro a w ⟨cy,cz,cA,cB,rfl,cC,cD,cE,cF,cG,cH,cI,cJ,cK,d3,f,m,d4,d5,d6,d7⟩
   obtain rfl:=sj hd
   exact⟨[],trivial,f.d,_,[ib b0 65 [cD,cF,cH,cJ,ai,aj],cE,cG,cI,cK],(gt aD (gt ch (gt cr d3))),m,_,_,_,_,_,_,_,_,Z,d4,d5,d6,d7⟩
theorem Wk.P {W:World}(hW:Dc W)(n:Nat):∀{w:World} {G:GH} {H:List Itm} {b0:Nat} {aa:Value} {ab:Itm} {ac:Value} {ad:Itm} {ae:Value} {af:Itm} {ag:Value} {ah:Itm} {ai aj:Value} {ak al:LI} {am an:LL} {ao ap:LI} {x1 x2:Int} (m:Mem W G w (ib b0 65 [aa,ac,ae,ag,ai,aj]::ab::ad::af::ah::H)) (aq:Ow R0 2 G ab aa ak) (ar:Ow R0 2 G ad ac al) (au:Ow R1 35 G af ae am) (av:Ow R1 35 G ah ag an) (aw:RSl (RI .u32) G ai ao) (ax:RSl (RI .u32) G aj ap) {y:(LI)×(LI)×(LL)×(LL)} (hd:D.P n ak al am an ao ap x1 x2=some y),
  Calls prog 28 #[(pb b0),(iv x1),(iv x2)] w (Res W G H (λG' Ho _=>∃r0:Value,∃i0:Itm,∃r2:Value,∃i2:Itm,∃r4:Value,∃i4:Itm,∃r6:Value,∃i6:Itm,Ho=[ib b0 65 [r0,r2,r4,r6,ai,aj],i0,i2,i4,i6]∧Ow R0 2 G' i0 r0 y.1∧Ow R0 2 G' i2 r2 y.2.1∧Ow R1 35 G' i4 r4 y.2.2.1∧Ow R1 35 G' i6 r6 y.2.2.2)):=by
 induction n with
 |zero=>intros;rename_i hd;simp[D.P] at hd
 |succ fuel ih=>
  intro w G H b0 aa ab ac ad ae af ag ah ai aj ak al am an ao ap x1 x2 m aq ar au av aw ax y hd
  refine Au (args:=[(pb b0),(iv x1),(iv x2)]) (N:=76) [] func28 Z Z (lb Z) Z λa f=> ?_
  unfold D.P at hd
  refine Ae ?_
  refine Ac f Z λa f=>Aa (Ag (Ae ?_))
  refine Ab f Z λa f=>l_o f (Bg (f.e Z)) λa f=>AW underlying65 Z sizeOf62 f Z λa f=>As 0 5 m Pl62 f Z Z Z Z λa f=>Ab f Z λa f=> ?_
  have⟨ay,az,hd⟩:=bind_some hd
  refine A4 T62 f Z Z Z ax az λaA aB a aC aD f=> ?_
  subst aD
  refine Ax m BM f Z Z aC λa f=> ?_
  have⟨aE,aF,hd⟩:=bind_some hd
  refine AX f Z call47 (Wk.h hW m aF) λaG aH aI w aJ m aK a f=> ?_
  obtain⟨aL,aM,rfl,rfl,aN⟩:=aK
  have ax:=rd1 aJ ax
  have aw:=rd1 aJ aw
  have aq:=od1 aJ aq
  have ar:=od1 aJ ar
  have au:=Ow.mono (RSl.mono (RI.mono _)) aJ au
  have av:=Ow.mono (RSl.mono (RI.mono _)) aJ av
  refine B4 0 m aN Z underlying89 f Z Z λa f=>Ab f Z λa f=>Aa ?_
  have⟨aO,aP,hd⟩:=bind_some hd
  refine AM (λa w=>∃aQ:Int,∃aR:LI,∃aS:LI,∃aT:LL,∃aU:LL,(aQ,aR,aS,aT,aU)=aO∧∃(aV:GH) (aW:Value) (aX:Itm) (aY:Value) (aZ:Itm) (a0:Value) (a1:Itm) (a2:Value) (a3:Itm),GLe aH aV∧Fr a 76 [(0,(pb b0)),(1,(iv x1)),(6,(iv aQ))]∧Mem W aV w (ib b0 65 [aW,aY,a0,a2,ai,aj]::aX::aZ::a1::a3::H)∧Ow R0 2 aV aX aW aR∧Ow R0 2 aV aZ aY aS∧Ow R1 35 aV a1 a0 aT∧Ow R1 35 aV a3 a2 aU) ?_ ?_
  ·refine Ak ?_
   have m:Mem W aH w (ib b0 65 [aa,ac,ae,ag,ai,aj]::aM::ab::ad::af::ah::H):=m.fr 1
   refine AO (λa4 a w=>∃a5:Int,∃a6:Int,∃a7:LI,∃a8:LI,∃a9:LL,∃ba:LL,(a5,a6,a7,a8,a9,ba)=a4∧∃(bb:GH) (bc:Value) (bd:Itm) (be:Value) (bf:Itm) (bg:Value) (bh:Itm) (bi:Value) (bj:Itm),GLe aH bb∧Fr a 76 [(0,(pb b0)),(1,(iv x1)),(2,(iv x2)),(6,(iv a5)),(16,aL),(17,(iv (aE.length:Int))),(18,(iv a6))]∧Mem W bb w (ib b0 65 [bc,be,bg,bi,ai,aj]::aM::bd::bf::bh::bj::H)∧Ow R0 2 bb bd bc a7∧Ow R0 2 bb bf be a8∧Ow R1 35 bb bh bg a9∧Ow R1 35 bb bj bi ba) aP ⟨_,_,_,_,_,_,Z,_,aa,ab,ac,ad,ae,af,ag,ah,gr,f.k Z,m,aq,ar,au,av⟩ ?_
   clear aP f m
   rintro a4 bk bl bm a w ⟨a5,a6,a7,a8,a9,ba,rfl,bb,bc,bd,be,bf,bg,bh,bi,bj,bn,f,m,bo,bp,bq,br⟩
   have aw:=rd1 bn aw
   have ax:=rd1 bn ax
   have aN:=od1 bn aN
   refine Ae ?_
   refine Ah f Z Z AR λa f=>Aa (Ag ?_)
   rcases Af bl with⟨bs,bl⟩|⟨bs,bl⟩
   ·refine Al f Z bs ?_
    refine Am ?_
    refine Ag (Ak (Ae ?_))
    have⟨bt,bu,bl⟩:=bind_some bl
    refine Bi 1 m aN Z T89 f Z Z Z bu λbv a bw f=>Bk 1 m aN Z Pl3 f Z Z bw bu λbx a bz f=> ?_
    subst bz
    refine Ac f Z λa f=>Aa (Ag (Ae ?_))
    refine Ab f Z λa f=>Ab f Z λa f=>Ah f Z Z Bj λa f=>Aa ?_
    rcases Af bl with⟨bA,bl⟩|⟨bA,bl⟩
    ·refine Al f Z bA ?_
     refine AG Z ?_
     refine Aj ?_
     refine Ah f Z Z AB λa f=>Ab f Z λa f=>Aa ?_
     obtain rfl:=sj bl
     exact⟨_,Z,_,_,_,_,_,_,Z,_,bc,bd,be,bf,bg,bh,bi,bj,bn,f.k Z,m,bo,bp,bq,br⟩
    ·refine Ai f Z bA ?_
     refine Am ?_
     refine Ae ?_
     refine Ab f Z λa f=>Ab f Z λa f=>Ab f Z λa f=> ?_
     have m:=m.fr 5
     have m:=m.fr 5
     have m:Mem W bb w (bf::bh::bj::ib b0 65 [bc,be,bg,bi,ai,aj]::aM::bd::H):=m.fr 5
     have m:=m.fr 5
     have m:Mem W bb w (ib b0 65 [bc,be,bg,bi,ai,aj]::bd::bf::bh::bj::aM::H):=m.fr 4
     have⟨bB,bC,bl⟩:=bind_some bl
     refine AX f Z call28 (ih m bo bp bq br aw ax bC) λbD bE bF w bG m bH a f=> ?_
     obtain⟨bI,bJ,bK,bL,bM,bN,bO,bP,rfl,bQ,bR,bS,bT⟩:=bH
     have aw:=rd1 bG aw
     have ax:=rd1 bG ax
     refine Aa (Ag ?_)
     refine Bf 15 AU (by kernel_rfl) m ?_
     refine An 0 15 Z f Z λa f=>An 1 15 Z f Z λa f=>q_p 2 15 Z f (λ_=>Bg (f.e Z)) λa f=>Bt 3 15 underlying65 Z sizeOf60 Z f Z λa f=>Br 4 15 0 Pl60 Z Z Z f Z λa f=>An 5 15 Z f Z λa f=> ?_
     have⟨bU,bV,bl⟩:=bind_some bl
     refine A8 6 15 T60 aw bV Z f Z Z λbW bX a bY bZ f=> ?_
     subst bZ
     refine A9 7 15 BM bY Z f Z λa f=>An 8 15 Z f Z λa f=>q_p 9 15 Z f (λ_=>Bg (f.e Z)) λa f=>Bt 10 15 underlying65 Z sizeOf60 Z f Z λa f=>Br 11 15 0 Pl60 Z Z Z f Z λa f=>An 12 15 Z f Z λa f=> ?_
     have⟨b1,b2,bl⟩:=bind_some bl
     refine A8 13 15 T60 aw b2 Z f Z Z λb3 b4 a b5 b6 f=> ?_
     subst b6
     refine A9 14 15 BM b5 Z f Z λa f=>A2 λb7 w b8 m=> ?_
     have aw:=rd1 b8 aw
     have ax:=rd1 b8 ax
     have bQ:=od1 b8 bQ
     have bR:=od1 b8 bR
     have bS:=Ow.mono (RSl.mono (RI.mono _)) b8 bS
     have bT:=Ow.mono (RSl.mono (RI.mono _)) b8 bT
     have⟨b9,ca,bl⟩:=bind_some bl
     refine AX f Z call29 (Wk.I hW m bQ bR bS bT aw ax ca) λcb cc cd w ce m cf a f=> ?_
     obtain⟨cg,ch,ci,cj,ck,cl,cm,cn,rfl,co,cp,cq,cr⟩:=cf
     have aw:=rd1 ce aw
     have ax:=rd1 ce ax
     refine Aa (Ag (Ae ?_))
     refine Ab f Z λa f=>Ah f Z Z Es λa f=>Aa ?_
     rcases Af bl with⟨cs,bl⟩|⟨cs,bl⟩
     ·refine Al f Z cs ?_
      have⟨ct,cu,bl⟩:=bind_some bl
      refine AM (λa w=>∃cv:LI,∃cw:LI,∃cx:LL,∃cy:LL,(cv,cw,cx,cy)=ct∧∃(cz:GH) (cA:Value) (cB:Itm) (cC:Value) (cD:Itm) (cE:Value) (cF:Itm) (cG:Value) (cH:Itm),GLe cc cz∧Fr a 76 [(0,(pb b0)),(1,(iv x1)),(2,(iv x2)),(16,aL),(17,(iv (aE.length:Int))),(18,(iv a6))]∧Mem W cz w (ib b0 65 [cA,cC,cE,cG,ai,aj]::aM::cB::cD::cF::cH::H)∧Ow R0 2 cz cB cA cv∧Ow R0 2 cz cD cC cw∧Ow R1 35 cz cF cE cx∧Ow R1 35 cz cH cG cy) ?_ ?_
      ·refine E8 [ib b0 65 [cg,ci,ck,cm,ai,aj],ch,cj,cl,cn] (aM::H) 12 AU (by kernel_rfl) m ?_
       refine An 0 12 Z f Z λa f=>An 1 12 Z f Z λa f=>q_p 2 12 Z f (λ_=>Bg (f.e Z)) λa f=>Bt 3 12 underlying65 Z sizeOf60 Z f Z λa f=>An 5 12 Z f Z λa f=>An 8 12 Z f Z λa f=>An 9 12 Z f Z λa f=>EJ (i:=4) (j:=10) (l1:= #[true,true,true,true,true,true,false,false,true,true,false,false,false]) (l2:= #[true,true,true,true,false,true,false,false,true,true,true,false,false]) Z Z (by kernel_rfl) Z Z ?_ ?_
       ·intro cI w cJ m cK cK
        have aw:=rd1 cJ aw
        have ax:=rd1 cJ ax
        have co:=od1 cJ co
        have cp:=od1 cJ cp
        have cq:=Ow.mono (RSl.mono (RI.mono _)) cJ cq
        have cr:=Ow.mono (RSl.mono (RI.mono _)) cJ cr
        refine As 0 4 m Pl60 f Z Z Z Z λa f=>Aa ?_
        refine cK cI [ib b0 65 [cg,ci,ck,cm,ai,aj],ch,cj,cl,cn] _ _ gr m ?_
        have⟨cL,cM,cu⟩:=bind_some cu
        refine A8 6 12 T60 aw cM Z f Z Z λcN cO a cP cQ f=> ?_
        subst cQ
        refine A9 7 12 BM cP Z f Z λa f=>BC 10 Z λcR w cS m cT cT=> ?_
        have aw:=rd1 cS aw
        have ax:=rd1 cS ax
        have co:=od1 cS co
        have cp:=od1 cS cp
        have cq:=Ow.mono (RSl.mono (RI.mono _)) cS cq
        have cr:=Ow.mono (RSl.mono (RI.mono _)) cS cr
        have⟨cU,cV,cu⟩:=bind_some cu
        refine AX f Z call79 (Wk.i m co cp cq cr aw ax cV) λcW cX cY w cZ m c0 a f=> ?_
        obtain⟨c1,c2,c3,c4,c5,c6,c7,c8,rfl,rfl,c9,da,db,dc⟩:=c0
        have aw:=rd1 cZ aw
        have ax:=rd1 cZ ax
        refine Aa ?_
        refine cT cX [ib b0 65 [c1,c3,c5,c7,ai,aj],c2,c4,c6,c8] _ _ cZ m ?_
        refine BC 11 Z λdd w de m df df=> ?_
        have aw:=rd1 de aw
        have ax:=rd1 de ax
        have c9:=od1 de c9
        have da:=od1 de da
        have db:=Ow.mono (RSl.mono (RI.mono _)) de db
        have dc:=Ow.mono (RSl.mono (RI.mono _)) de dc
        refine A7 (R:=R0) (xs:=([a5,cU.1]:LI)) (RI.one _) m T89 f Z Z Z (by decide) (All2.cons Z (All2.cons Z (All2.nil _))) λdg dh w a m di f=>Aa ?_
        refine df dd [dg,ib b0 65 [c1,c3,c5,c7,ai,aj],c2,c4,c6,c8] _ _ gr m ?_
        refine A2 λdj w dk m=> ?_
        have aw:=rd1 dk aw
        have di:=od1 dk di
        have ax:=rd1 dk ax
        have c9:=od1 dk c9
        have da:=od1 dk da
        have db:=Ow.mono (RSl.mono (RI.mono _)) dk db
        have dc:=Ow.mono (RSl.mono (RI.mono _)) dk dc
        obtain⟨dl,dm,m,dn⟩:=Ow.stamp (RI.mono _) di m
        have aw:=rd1 dm aw
        have ax:=rd1 dm ax
        have c9:=od1 dm c9
        have da:=od1 dm da
        have db:=Ow.mono (RSl.mono (RI.mono _)) dm db
        have dc:=Ow.mono (RSl.mono (RI.mono _)) dm dc
        have⟨dp,dq,cu⟩:=bind_some cu
        refine AX f Z call78 (Wk.j hW m c9 da db dc aw ax dn dq) λdr ds dt w du m dv a f=> ?_
        obtain⟨dw,dx,dy,dz,dA,dB,dC,dD,rfl,dE,dF,dG,dH⟩:=dv
        refine Aa ?_
        have m:=m.fr 5
        have m:Mem W ds w (ib b0 65 [dw,dy,dA,dC,ai,aj]::aM::dx::dz::dB::dD::H):=m.fr 1
        obtain rfl:=sj cu
        exact⟨_,_,_,_,Z,_,dw,dx,dy,dz,dA,dB,dC,dD,(gt cJ (gt cS (gt cZ (gt de (gt dk (gt dm du)))))),f.k Z,m,dE,dF,dG,dH⟩
       ·intro cR w cS m cT cT
        have⟨cL,cM,cu⟩:=bind_some cu
        have⟨cU,cV,cu⟩:=bind_some cu
        have⟨dp,dq,cu⟩:=bind_some cu
        have aw:=rd1 cS aw
        have ax:=rd1 cS ax
        have co:=od1 cS co
        have cp:=od1 cS cp
        have cq:=Ow.mono (RSl.mono (RI.mono _)) cS cq
        have cr:=Ow.mono (RSl.mono (RI.mono _)) cS cr
        refine AX f Z call79 (Wk.i m co cp cq cr aw ax cV) λcW cX cY w cZ m c0 a f=> ?_
        obtain⟨c1,c2,c3,c4,c5,c6,c7,c8,rfl,rfl,c9,da,db,dc⟩:=c0
        have aw:=rd1 cZ aw
        have ax:=rd1 cZ ax
        refine Aa ?_
        refine cT cX [ib b0 65 [c1,c3,c5,c7,ai,aj],c2,c4,c6,c8] _ _ cZ m ?_
        refine EJ (i:=4) (j:=11) (l1:= #[true,true,true,true,true,true,false,false,true,true,true,false,false]) (l2:= #[true,true,true,true,false,true,false,false,true,true,true,true,false]) Z Z (by kernel_rfl) Z Z ?_ ?_
        ·intro cI w cJ m cK cK
         have aw:=rd1 cJ aw
         have ax:=rd1 cJ ax
         have c9:=od1 cJ c9
         have da:=od1 cJ da
         have db:=Ow.mono (RSl.mono (RI.mono _)) cJ db
         have dc:=Ow.mono (RSl.mono (RI.mono _)) cJ dc
         refine As 0 4 m Pl60 f Z Z Z Z λa f=>Aa ?_
         refine cK cI [ib b0 65 [c1,c3,c5,c7,ai,aj],c2,c4,c6,c8] _ _ gr m ?_
         refine A8 6 12 T60 aw cM Z f Z Z λcN cO a cP cQ f=> ?_
         subst cQ
         refine A9 7 12 BM cP Z f Z λa f=>BC 11 Z λdd w de m df df=> ?_
         have aw:=rd1 de aw
         have ax:=rd1 de ax
         have c9:=od1 de c9
         have da:=od1 de da
         have db:=Ow.mono (RSl.mono (RI.mono _)) de db
         have dc:=Ow.mono (RSl.mono (RI.mono _)) de dc
         refine A7 (R:=R0) (xs:=([a5,cU.1]:LI)) (RI.one _) m T89 f Z Z Z (by decide) (All2.cons Z (All2.cons Z (All2.nil _))) λdg dh w a m di f=>Aa ?_
         refine df dd [dg,ib b0 65 [c1,c3,c5,c7,ai,aj],c2,c4,c6,c8] _ _ gr m ?_
         refine A2 λdj w dk m=> ?_
         have aw:=rd1 dk aw
         have di:=od1 dk di
         have ax:=rd1 dk ax
         have c9:=od1 dk c9
         have da:=od1 dk da
         have db:=Ow.mono (RSl.mono (RI.mono _)) dk db
         have dc:=Ow.mono (RSl.mono (RI.mono _)) dk dc
         obtain⟨dl,dm,m,dn⟩:=Ow.stamp (RI.mono _) di m
         have aw:=rd1 dm aw
         have ax:=rd1 dm ax
         have c9:=od1 dm c9
         have da:=od1 dm da
         have db:=Ow.mono (RSl.mono (RI.mono _)) dm db
         have dc:=Ow.mono (RSl.mono (RI.mono _)) dm dc
         refine AX f Z call78 (Wk.j hW m c9 da db dc aw ax dn dq) λdr ds dt w du m dv a f=> ?_
         obtain⟨dw,dx,dy,dz,dA,dB,dC,dD,rfl,dE,dF,dG,dH⟩:=dv
         refine Aa ?_
         have m:=m.fr 5
         have m:Mem W ds w (ib b0 65 [dw,dy,dA,dC,ai,aj]::aM::dx::dz::dB::dD::H):=m.fr 1
         obtain rfl:=sj cu
         exact⟨_,_,_,_,Z,_,dw,dx,dy,dz,dA,dB,dC,dD,(gt cS (gt cZ (gt cJ (gt de (gt dk (gt dm du)))))),f.k Z,m,dE,dF,dG,dH⟩
        ·intro dd w de m df df
         have aw:=rd1 de aw
         have ax:=rd1 de ax
         have c9:=od1 de c9
         have da:=od1 de da
         have db:=Ow.mono (RSl.mono (RI.mono _)) de db
         have dc:=Ow.mono (RSl.mono (RI.mono _)) de dc
         refine A7 (R:=R0) (xs:=([a5,cU.1]:LI)) (RI.one _) m T89 f Z Z Z (by decide) (All2.cons Z (All2.cons Z (All2.nil _))) λdg dh w a m di f=>Aa ?_
         refine df dd [dg,ib b0 65 [c1,c3,c5,c7,ai,aj],c2,c4,c6,c8] _ _ gr m ?_
         refine BC 4 Z λcI w cJ m cK cK=> ?_
         have di:=od1 cJ di
         have aw:=rd1 cJ aw
         have ax:=rd1 cJ ax
         have c9:=od1 cJ c9
         have da:=od1 cJ da
         have db:=Ow.mono (RSl.mono (RI.mono _)) cJ db
         have dc:=Ow.mono (RSl.mono (RI.mono _)) cJ dc
         refine As 1 4 m Pl60 f Z Z Z Z λa f=>Aa ?_
         refine cK cI [dg,ib b0 65 [c1,c3,c5,c7,ai,aj],c2,c4,c6,c8] _ _ gr m ?_
         refine A8 6 12 T60 aw cM Z f Z Z λcN cO a cP cQ f=> ?_
         subst cQ
         refine A9 7 12 BM cP Z f Z λa f=>A2 λdj w dk m=> ?_
         have aw:=rd1 dk aw
         have di:=od1 dk di
         have ax:=rd1 dk ax
         have c9:=od1 dk c9
         have da:=od1 dk da
         have db:=Ow.mono (RSl.mono (RI.mono _)) dk db
         have dc:=Ow.mono (RSl.mono (RI.mono _)) dk dc
         obtain⟨dl,dm,m,dn⟩:=Ow.stamp (RI.mono _) di m
         have aw:=rd1 dm aw
         have ax:=rd1 dm ax
         have c9:=od1 dm c9
         have da:=od1 dm da
         have db:=Ow.mono (RSl.mono (RI.mono _)) dm db
         have dc:=Ow.mono (RSl.mono (RI.mono _)) dm dc
         refine AX f Z call78 (Wk.j hW m c9 da db dc aw ax dn dq) λdr ds dt w du m dv a f=> ?_
         obtain⟨dw,dx,dy,dz,dA,dB,dC,dD,rfl,dE,dF,dG,dH⟩:=dv
         refine Aa ?_
         have m:=m.fr 5
         have m:Mem W ds w (ib b0 65 [dw,dy,dA,dC,ai,aj]::aM::dx::dz::dB::dD::H):=m.fr 1
         obtain rfl:=sj cu
         exact⟨_,_,_,_,Z,_,dw,dx,dy,dz,dA,dB,dC,dD,(gt cS (gt cZ (gt de (gt cJ (gt dk (gt dm du)))))),f.k Z,m,dE,dF,dG,dH⟩
      ·rintro a w ⟨cv,cw,cx,cy,rfl,cz,cA,cB,cC,cD,cE,cF,cG,cH,dI,f,m,dJ,dK,dL,dM⟩
       have aw:=rd1 dI aw
       have ax:=rd1 dI ax
       refine Aj ?_
       refine Ab f Z λa f=> ?_
       have m:=m.fr 5
       have m:=m.fr 5
       have m:Mem W cz w (cD::cF::cH::ib b0 65 [cA,cC,cE,cG,ai,aj]::aM::cB::H):=m.fr 5
       have m:=m.fr 5
       have m:Mem W cz w (ib b0 65 [cA,cC,cE,cG,ai,aj]::cB::cD::cF::cH::aM::H):=m.fr 4
       have⟨dN,dO,bl⟩:=bind_some bl
       refine AX f Z call79 (Wk.i m dJ dK dL dM aw ax dO) λdP dQ dR w dS m dT a f=> ?_
       obtain⟨dU,dV,dW,dX,dY,dZ,d0,d1,rfl,rfl,d2,d3,d4,d5⟩:=dT
       refine Ac f Z λa f=>Aa (Aj ?_)
       refine Ah f Z Z AB λa f=>Ab f Z λa f=>Aa ?_
       have m:=m.fr 5
       have m:Mem W dQ w (ib b0 65 [dU,dW,dY,d0,ai,aj]::aM::dV::dX::dZ::d1::H):=m.fr 1
       obtain rfl:=sj bl
       exact⟨_,Z,_,_,_,_,_,_,Z,_,dU,dV,dW,dX,dY,dZ,d0,d1,(gt bn (gt bG (gt b8 (gt ce (gt dI dS))))),f.k Z,m,d2,d3,d4,d5⟩
     ·refine Ai f Z cs ?_
      refine Am ?_
      refine Aj ?_
      refine Ab f Z λa f=> ?_
      have⟨d6,d7,bl⟩:=bind_some bl
      refine AX f Z call79 (Wk.i m co cp cq cr aw ax d7) λd8 d9 ea w eb m ec a f=> ?_
      obtain⟨ed,ee,ef,eg,eh,ei,ej,ek,rfl,rfl,el,em,en,eo⟩:=ec
      refine Ac f Z λa f=>Aa (Aj ?_)
      refine Ah f Z Z AB λa f=>Ab f Z λa f=>Aa ?_
      have m:=m.fr 5
      have m:Mem W d9 w (ib b0 65 [ed,ef,eh,ej,ai,aj]::aM::ee::eg::ei::ek::H):=m.fr 1
      obtain rfl:=sj bl
      exact⟨_,Z,_,_,_,_,_,_,Z,_,ed,ee,ef,eg,eh,ei,ej,ek,(gt bn (gt bG (gt b8 (gt ce eb)))),f.k Z,m,el,em,en,eo⟩
   ·refine Ai f Z bs ?_
    refine AG Z ?_
    have m:=m.fr 5
    have m:=m.fr 5
    have m:Mem W bb w (bf::bh::bj::ib b0 65 [bc,be,bg,bi,ai,aj]::aM::bd::H):=m.fr 5
    have m:=m.fr 5
    have m:=m.fr 4
    have m:Mem W bb w (ib b0 65 [bc,be,bg,bi,ai,aj]::bd::bf::bh::bj::H):=m.eraseAt 5
    obtain rfl:=sj bl
    obtain rfl:=bm _ rfl
    exact⟨_,_,_,_,_,Z,_,bc,bd,be,bf,bg,bh,bi,bj,bn,f.k Z,m,bo,bp,bq,br⟩
  ·rintro a w ⟨aQ,aR,aS,aT,aU,rfl,aV,aW,aX,aY,aZ,a0,a1,a2,a3,ep,f,m,eq,er,es,et⟩
   have aw:=rd1 ep aw
   have ax:=rd1 ep ax
   refine Ae ?_
   refine Ab f Z λa f=>Ah f Z Z AR λa f=>Aa ?_
   rcases Af hd with⟨eu,hd⟩|⟨eu,hd⟩
   ·refine Al f Z eu ?_
    refine Ae ?_
    refine Ab f Z λa f=> ?_
    have ev:=RSl.nil R0 aV
    have⟨ew,ex,hd⟩:=bind_some hd
    refine AX f Z call78 (Wk.j hW m eq er es et aw ax ev ex) λey ez eA w eB m eC a f=> ?_
    obtain⟨eD,eE,eF,eG,eH,eI,eJ,eK,rfl,eL,eM,eN,eO⟩:=eC
    have aw:=rd1 eB aw
    have ax:=rd1 eB ax
    refine Aa (Aj ?_)
    refine Ab f Z λa f=>Ab f Z λa f=>l_o f (Bg (f.e Z)) λa f=>AW underlying65 Z sizeOf60 f Z λa f=>As 0 4 m Pl60 f Z Z Z Z λa f=>Ab f Z λa f=> ?_
    have⟨eP,eQ,hd⟩:=bind_some hd
    refine A4 T60 f Z Z Z aw eQ λeR eS a eT eU f=> ?_
    subst eU
    refine Ax m BM f Z Z eT λa f=> ?_
    have⟨eV,eW,hd⟩:=bind_some hd
    refine AX f Z call29 (Wk.I hW m eL eM eN eO aw ax eW) λeX eY eZ w e0 m e1 a f=> ?_
    obtain⟨e2,e3,e4,e5,e6,e7,e8,e9,rfl,fa,fb,fc,fd⟩:=e1
    refine Aa ?_
    obtain rfl:=sj hd
    exact⟨[],trivial,f.d,_,[ib b0 65 [e2,e4,e6,e8,ai,aj],e3,e5,e7,e9],(gt aJ (gt ep (gt eB e0))),m,_,_,_,_,_,_,_,_,Z,fa,fb,fc,fd⟩
   ·refine Ai f Z eu ?_
    refine Am ?_
    obtain rfl:=sj hd
    exact⟨[],trivial,f.d,_,[ib b0 65 [aW,aY,a0,a2,ai,aj],aX,aZ,a1,a3],(gt aJ ep),m,_,_,_,_,_,_,_,_,Z,eq,er,es,et⟩
theorem Wk.p {b0:Nat}{aa:Value}{ab:Itm}{ac:Value}{ad:Itm}{ae:Value}{af:Itm}{ag:Value}{ah:Itm}{ai aj:Value}{ak al:LI}{am an:LL}{ao ap:LI}{x1 x2:Int}(hW:Dc W)(m:Mem W G w (ib b0 65 [aa,ac,ae,ag,ai,aj]::ab::ad::af::ah::H))(aq:Ow R0 2 G ab aa ak)(ar:Ow R0 2 G ad ac al)(au:Ow R1 35 G af ae am)(av:Ow R1 35 G ah ag an)(aw:RSl (RI .u32) G ai ao)(ax:RSl (RI .u32) G aj ap){y:(LI)×(LI)×(LL)×(LL)}(hd:D.p ak al am an ao ap x1 x2=some y):
  Calls prog 28 #[(pb b0),(iv x1),(iv x2)] w (Res W G H (λG' Ho _=>∃r0:Value,∃i0:Itm,∃r2:Value,∃i2:Itm,∃r4:Value,∃i4:Itm,∃r6:Value,∃i6:Itm,Ho=[ib b0 65 [r0,r2,r4,r6,ai,aj],i0,i2,i4,i6]∧Ow R0 2 G' i0 r0 y.1∧Ow R0 2 G' i2 r2 y.2.1∧Ow R1 35 G' i4 r4 y.2.2.1∧Ow R1 35 G' i6 r6 y.2.2.2)):=by
 exact Wk.P hW B7 m aq ar au av aw ax hd
theorem Wk.f1 {v0:Value}{x0:LL}(m:Mem W G w (H))(h0:R2 G v0 x0){y:Int}(hd:D.f1 x0=some y):
  Calls prog 75 #[v0,(.func (.func 25) #[] #[])] w (Res W G H (λ_ Ho v=>Ho=[]∧v=(iv y))):=by
 refine Au (args:=[v0,(.func (.func 25) #[] #[])]) (N:=19) [.tmp 4] func75 Z Z (lb Z) Z λa f=> ?_
 unfold D.f1 at hd
 refine Ae ?_
 refine Ac f Z λa f=>Aa (Ag (Ae ?_))
 refine Ab f Z λa f=>AL underlying27 f Z Z h0 λa f=>Ab f Z λa f=>Aa ?_
 have⟨aa,ab,hd⟩:=bind_some hd
 refine AM (λa w=>∃q_33':Unit,aa= .inl q_33'∧∃(ac:GH),GLe G ac∧Fr a 19 []∧Mem W ac w (H)) ?_ ?_
 ·refine Ak ?_
  refine AO (λad a w=>∃ae:Int,ae=ad∧∃(af:GH),GLe G af∧Fr a 19 [(0,v0),(1,(.func (.func 25) #[] #[])),(7,(iv (x0.length:Int))),(8,(iv ae))]∧Mem W af w (H)) ab ⟨_,Z,_,gr,f.k Z,m⟩ ?_
  clear ab f m
  rintro ad ag ah ai a w ⟨ae,rfl,af,aj,f,m⟩
  have h0:=rd2 aj h0
  refine Ae ?_
  refine Ah f Z Z AR λa f=>Aa (Ag ?_)
  rcases Af ah with⟨ak,ah⟩|⟨ak,ah⟩
  ·refine Al f Z ak ?_
   refine Am ?_
   refine Ag (Ak (Ae ?_))
   refine Ab f Z λa f=>Ac f Z λa f=>AD ?_
   refine Ab f Z λa f=>Ab f Z λa f=>Ab f Z λa f=> ?_
   have⟨al,am,ah⟩:=bind_some ah
   refine A4 T27 f Z Z Z h0 am λan ao a ap aq f=>Ax m Ba f Z Z ap λa f=> ?_
   have⟨ar,au,ah⟩:=bind_some ah
   refine CL f Z Z Z call25 (Wk.M0 m aq au) λav aw ax w ay m az a f=> ?_
   obtain⟨rfl,rfl⟩:=az
   refine Aa ?_
   rcases Af ah with⟨aA,ah⟩|⟨aA,ah⟩
   ·refine Al f Z aA ?_
    refine Ae ?_
    refine Ab f Z λa f=>Ac f Z λa f=>Aa ?_
    refine Ap ?_
    obtain rfl:=sj ah
    obtain rfl:=ai _ rfl
    obtain rfl:=sj hd
    exact⟨[(iv ae)],f.g Z,f.d,_,[],(gt aj ay),m,Z,Z⟩
   ·refine Ai f Z aA ?_
    refine Am ?_
    refine Aj ?_
    refine Ah f Z Z AB λa f=>Ab f Z λa f=>Aa ?_
    obtain rfl:=sj ah
    exact⟨_,Z,_,Z,_,(gt aj ay),f.k Z,m⟩
  ·refine Ai f Z ak ?_
   refine AG Z ?_
   obtain rfl:=sj ah
   obtain rfl:=ai _ rfl
   exact⟨_,Z,_,aj,f.weak trivial,m⟩
 ·rintro a w ⟨_,rfl,ac,aB,f,m⟩
  refine Ae ?_
  refine Ac f Z λa f=>Aa ?_
  refine Ap ?_
  obtain rfl:=sj hd
  exact⟨[(iv (-1))],f.g Z,f.d,_,[],aB,m,Z,Z⟩
theorem Wk.I0 {v0:Value}{x0:LL}(m:Mem W G w (H))(h0:R2 G v0 x0){y:Bool}(hd:D.I0 x0=some y):
  Calls prog 24 #[v0,(.func (.func 25) #[] #[])] w (Res W G H (λ_ Ho v=>Ho=[]∧v=(.bool y))):=by
 refine Au (args:=[v0,(.func (.func 25) #[] #[])]) (N:=9) [.tmp 4] func24 Z Z (lb Z) Z λa f=> ?_
 unfold D.I0 at hd
 refine Ae ?_
 refine Ac f Z λa f=>AD ?_
 refine Ab f Z λa f=>Ab f Z λa f=> ?_
 have⟨aa,ab,hd⟩:=bind_some hd
 refine Bd f Z call75 (Wk.f1 m h0 ab) λac w ad m a f=>Ah f Z Z Es λa f=>Ac f Z λa f=>Aa ?_
 refine Ap ?_
 obtain rfl:=sj hd
 exact⟨[(.bool (decide ((0:Int)≤aa)))],f.g Z,f.d,_,[],ad,m,Z,Z⟩
theorem Wk.s {aa ab ac:Value}{ad ae af:LL}(hW:Dc W)(m:Mem W G w (H))(ag:R2 G aa ad)(ah:R2 G ab ae)(ai:R2 G ac af){y:(LI)×(LI)×(LL)×(LL)×Bool}(hd:D.s ad ae af=some y):
  Calls prog 9 #[(.agg #[aa]),(.agg #[ab,ac])] w (Res W G H (λG' Ho v=>∃r0:Value,∃i0:Itm,∃r2:Value,∃i2:Itm,∃r4:Value,∃i4:Itm,∃r6:Value,∃i6:Itm,Ho=[i0,i2,i4,i6]∧v= .tuple #[(.agg #[r0,r2,r4,r6]),(.bool y.2.2.2.2)]∧Ow R0 2 G' i0 r0 y.1∧Ow R0 2 G' i2 r2 y.2.1∧Ow R1 35 G' i4 r4 y.2.2.1∧Ow R1 35 G' i6 r6 y.2.2.2.1)):=by
 refine Au (args:=[(.agg #[aa]),(.agg #[ab,ac])]) (N:=46) [.cell 4 38,.tmp 5] func9 Z Z (lb Z) Z λa f=> ?_
 unfold D.s at hd
 refine Ae ?_
 refine Bo (cs:=[aa]) m f Z Z Z λaj w a m f=>Bo (cs:=[ab,ac]) m f Z Z Z λak w a m f=>Bp (cs:=[sn,sn,sn,sn]) zeroValue38 m f Z Z λal w a m f=>Ac f Z λa f=>Aa (Ag (Ae ?_))
 refine AC 2 0 (ds:=[aa]) m Bv f Z Z Z Z Z λa f=>AC 1 0 (ds:=[ab,ac]) m Ag32 f Z Z Z Z Z λa f=> ?_
 have⟨am,an,hd⟩:=bind_some hd
 refine Bd f Z call23 (Wk.E0 hW m ag ah ai an) λao w ap m a f=> ?_
 have ah:=rd2 ap ah
 have ai:=rd2 ap ai
 refine l_o f (By (f.e Z)) λa f=>Ab f Z λa f=> ?_
 have⟨aq,ar,hd⟩:=bind_some hd
 refine Bx 4 (λa w=>∃au,GLe ao au∧Mem W au w (ib al 38 [sn,sn,sn,sn]::ib ak 32 [ab,ac]::ib aj 29 [aa]::H)∧Fr a 46 [(0,(.agg #[aa])),(1,(.agg #[ab,ac])),(2,(pb aj)),(3,(pb ak)),(4,(pb al)),(7,(.agg #[aa])),(8,(.agg #[ab,ac])),(9,(.bool am)),(10,(.bool (!am))),(11,(.bool (!am))),(15,(.bool aq))]) ?_ ?_
 ·rcases Af ar with⟨av,ar⟩|⟨av,ar⟩
  ·refine Ar f av λa f=> ?_
   refine Ar f av λa f=>Ar f av λa f=>l_o f (AI (f.e Z) av (f.e Z)) λa f=> ?_
   obtain rfl:=sj ar
   exact⟨_,gr,m,f.k Z⟩
  ·refine Aq f av ?_
   refine AW underlying32 Z sizeOf27 f Z λa f=>Aq f av ?_
   refine As 1 0 m Be f Z Z Z Z λa f=>Aq f av ?_
   have⟨aw,ax,ar⟩:=bind_some ar
   refine Bd f Z call24 (Wk.I0 m ah ax) λay w az m a f=>l_o f (AJ (f.e Z) av (f.e Z)) λa f=> ?_
   obtain rfl:=sj ar
   exact⟨_,az,m,f.k Z⟩
 ·rintro a w ⟨au,aA,m,f⟩
  have ah:=rd2 aA ah
  have ai:=rd2 aA ai
  refine Aa ?_
  rcases Af hd with⟨aB,hd⟩|⟨aB,hd⟩
  ·refine Al f Z aB ?_
   refine Ae ?_
   have aC:∀w,(Instr.build 38 #[]).run prog w= .ok (.agg #[sn,sn,sn,sn]) w:=by intro w;simp[Instr.build,Instr.fill,BX,BQ,BD,BI,BA,BW,BP]
   refine CS f Z Z aC λa f=>AA 0 0 (ds:=[sn,sn,sn,sn]) m sizeOf38 f Z Z Z (Ao Z (Ao Z (Ao Z (Ao Z AK)))) Z (lb Z) Z λw m=>Ac f Z λa f=>Aa ?_
   refine Ap ?_
   obtain⟨aD,m,aE⟩:=Ow.nil R0 2 m
   obtain⟨aF,m,aG⟩:=Ow.nil R0 2 m
   obtain⟨aH,m,aI⟩:=Ow.nil R1 35 m
   obtain⟨aJ,m,aK⟩:=Ow.nil R1 35 m
   have aL:=CO (P:=prog) 4 m DJ f (s:=4) rfl rfl rfl
   have m:=m.fr 1
   have m:=m.fr 2
   have m:Mem W au w (aD::aF::aH::aJ::ib al 38 [sn,sn,sn,sn]::ib ak 32 [ab,ac]::ib aj 29 [aa]::H):=m.fr 3
   have m:=m.eraseAt 6
   have m:=m.eraseAt 5
   have m:=m.eraseAt 4
   obtain rfl:=sj hd
   exact⟨[(.agg #[sn,sn,sn,sn]),(.bool false)],⟨aL,f.get _ _ Z,trivial⟩,f.d,_,[aD,aF,aH,aJ],(gt ap aA),m,_,_,_,_,_,_,_,_,Z,Z,aE,aG,aI,aK⟩
  ·refine Ai f Z aB ?_
   refine Am ?_
   refine Ag ?_
   refine Bf 5 AU (by kernel_rfl) m ?_
   refine Bt 0 5 underlying32 Z sizeOf27 Z f Z λa f=>Br 1 5 1 Be Z Z Z f Z λa f=>BE (i:=3) (ds:=[ab,ac]) 5 1 Ag32 Z Z Z Z (by kernel_rfl) Z f Z Z Z λa f=>BC 2 Z λaM w aN m aO aO=> ?_
   have ah:=rd2 aN ah
   have ai:=rd2 aN ai
   have⟨aP,aQ,hd⟩:=bind_some hd
   refine AX f Z call26 (Wk.l m ah aQ) λaR aS aT w aU m aV a f=> ?_
   obtain⟨aW,aX,rfl,rfl,aY⟩:=aV
   have ah:=rd2 aU ah
   have ai:=rd2 aU ai
   refine Aa ?_
   refine aO aS [aX] _ _ aU m ?_
   refine BC 4 Z λaZ w a0 m a1 a1=> ?_
   have ah:=rd2 a0 ah
   have ai:=rd2 a0 ai
   have aY:=od1 a0 aY
   have⟨a2,a3,hd⟩:=bind_some hd
   refine AX f Z call27 (Wk.U m ah ai a3) λa4 a5 a6 w a7 m a8 a f=> ?_
   obtain⟨a9,ba,rfl,rfl,bb⟩:=a8
   have aY:=od1 a7 aY
   refine Aa ?_
   refine a1 a5 [ba,aX] _ _ a7 m ?_
   refine A2 λbc w bd m=> ?_
   have bb:=od1 bd bb
   have aY:=od1 bd aY
   have be:∀w,(Instr.build 65 #[(1,aW),(2,a9)]).run prog w= .ok (.agg #[sn,sn,sn,sn,aW,a9]) w:=by intro w;simp[Instr.build,Instr.fill,(Ow.cells 1 m aY rfl),(Ow.cells 0 m bb rfl),BX,BQ,BD,BI,BA,BW,BP]
   refine CS f Z Z be λa f=>Bo (cs:=[sn,sn,sn,sn,aW,a9]) m f Z Z Z λbf w a m f=>Ac f Z λa f=>AD ?_
   refine Ab f Z λa f=> ?_
   obtain⟨bg,m,bh⟩:=Ow.nil R0 2 m
   obtain⟨bi,m,bj⟩:=Ow.nil R0 2 m
   obtain⟨bk,m,bl⟩:=Ow.nil R1 35 m
   obtain⟨bm,m,bn⟩:=Ow.nil R1 35 m
   have m:Mem W bc w (aX::bm::bk::bi::bg::ib bf 65 [sn,sn,sn,sn,aW,a9]::ba::ib al 38 [sn,sn,sn,sn]::ib ak 32 [ab,ac]::ib aj 29 [aa]::H):=m.fr 6
   obtain⟨bo,bp,m,bq⟩:=Ow.stamp (RI.mono _) aY m
   have bn:=Ow.mono (RSl.mono (RI.mono _)) bp bn
   have bl:=Ow.mono (RSl.mono (RI.mono _)) bp bl
   have bj:=od1 bp bj
   have bh:=od1 bp bh
   have bb:=od1 bp bb
   have m:Mem W bo w (ba::bm::bk::bi::bg::ib bf 65 [sn,sn,sn,sn,aW,a9]::ib al 38 [sn,sn,sn,sn]::ib ak 32 [ab,ac]::ib aj 29 [aa]::H):=m.fr 5
   obtain⟨br,bs,m,bt⟩:=Ow.stamp (RI.mono _) bb m
   have bn:=Ow.mono (RSl.mono (RI.mono _)) bs bn
   have bl:=Ow.mono (RSl.mono (RI.mono _)) bs bl
   have bj:=od1 bs bj
   have bh:=od1 bs bh
   have bq:=rd1 bs bq
   have m:=m.fr 1
   have m:=m.fr 2
   have m:Mem W br w (bg::bi::bk::bm::ib bf 65 [sn,sn,sn,sn,aW,a9]::ib al 38 [sn,sn,sn,sn]::ib ak 32 [ab,ac]::ib aj 29 [aa]::H):=m.fr 3
   have m:Mem W br w (ib bf 65 [sn,sn,sn,sn,aW,a9]::bg::bi::bk::bm::ib al 38 [sn,sn,sn,sn]::ib ak 32 [ab,ac]::ib aj 29 [aa]::H):=m.fr 4
   have⟨bu,bv,hd⟩:=bind_some hd
   refine AX f Z call28 (Wk.p hW m bh bj bl bn bq bt bv) λbw bx bz w bA m bB a f=> ?_
   obtain⟨bC,bD,bE,bF,bG,bH,bI,bJ,rfl,bK,bL,bM,bN⟩:=bB
   have bq:=rd1 bA bq
   have bt:=rd1 bA bt
   refine AD ?_
   refine Ab f Z λa f=>Ab f Z λa f=>l_o f (Bg (f.e Z)) λa f=>AW underlying65 Z sizeOf60 f Z λa f=>As 0 4 m Pl60 f Z Z Z Z λa f=> ?_
   have⟨bO,bP,hd⟩:=bind_some hd
   refine A4 T60 f Z Z Z bq bP λbQ bR a bS bT f=> ?_
   subst bT
   refine Ax m BM f Z Z bS λa f=> ?_
   have⟨bU,bV,hd⟩:=bind_some hd
   refine AX f Z call29 (Wk.I hW m bK bL bM bN bq bt bV) λbW bX bY w bZ m b0 a f=> ?_
   obtain⟨b1,b2,b3,b4,b5,b6,b7,b8,rfl,b9,ca,cb,cc⟩:=b0
   refine Aa (Ag (Ae ?_))
   refine Ab f Z λa f=>l_o f (Bg (f.e Z)) λa f=>AW underlying65 Z sizeOf38 f Z λa f=>AW underlying38 Z sizeOf35 f Z λa f=>As 0 0 m Ba f Z Z Z Z λa f=>B4 1 m b9 Z underlying35 f Z Z λa f=>Ah f Z Z Cz λa f=>Aa ?_
   rcases Af hd with⟨cd,hd⟩|⟨cd,hd⟩
   ·refine Al f Z cd ?_
    refine Ae ?_
    have ce:∀w,(Instr.build 38 #[]).run prog w= .ok (.agg #[sn,sn,sn,sn]) w:=by intro w;simp[Instr.build,Instr.fill,BX,BQ,BD,BI,BA,BW,BP]
    refine CS f Z Z ce λa f=>AA 5 0 (ds:=[sn,sn,sn,sn]) m sizeOf38 f Z Z Z (Ao Z (Ao Z (Ao Z (Ao Z AK)))) Z (lb Z) Z λw m=>Ac f Z λa f=>Aa ?_
    refine Ap ?_
    obtain⟨cf,m,cg⟩:=Ow.nil R0 2 m
    obtain⟨ch,m,ci⟩:=Ow.nil R0 2 m
    obtain⟨cj,m,ck⟩:=Ow.nil R1 35 m
    obtain⟨cl,m,cm⟩:=Ow.nil R1 35 m
    have cn:=CO (P:=prog) 9 m DJ f (s:=4) rfl rfl rfl
    have m:=m.fr 1
    have m:=m.fr 2
    have m:Mem W bX w (cf::ch::cj::cl::ib bf 65 [b1,b3,b5,b7,aW,a9]::b2::b4::b6::b8::ib al 38 [sn,sn,sn,sn]::ib ak 32 [ab,ac]::ib aj 29 [aa]::H):=m.fr 3
    have m:=m.fr 8
    have m:=m.fr 8
    have m:Mem W bX w (b4::b6::b8::cf::ch::cj::cl::ib bf 65 [b1,b3,b5,b7,aW,a9]::b2::ib al 38 [sn,sn,sn,sn]::ib ak 32 [ab,ac]::ib aj 29 [aa]::H):=m.fr 8
    have m:=m.fr 8
    have m:=m.fr 7
    have m:Mem W bX w (cj::cl::b2::b4::b6::b8::cf::ch::ib bf 65 [b1,b3,b5,b7,aW,a9]::ib al 38 [sn,sn,sn,sn]::ib ak 32 [ab,ac]::ib aj 29 [aa]::H):=m.fr 7
    have m:=m.fr 7
    have m:=m.fr 7
    have m:Mem W bX w (cf::ch::cj::cl::b2::b4::b6::b8::ib bf 65 [b1,b3,b5,b7,aW,a9]::ib al 38 [sn,sn,sn,sn]::ib ak 32 [ab,ac]::H):=m.eraseAt 11
    have m:=m.eraseAt 10
    have m:=m.eraseAt 9
    have m:Mem W bX w (cf::ch::cj::cl::b2::b4::b6::b8::H):=m.eraseAt 8
    have m:=m.eraseAt 7
    have m:=m.eraseAt 6
    have m:Mem W bX w (cf::ch::cj::cl::b2::H):=m.eraseAt 5
    have m:=m.eraseAt 4
    obtain rfl:=sj hd
    exact⟨[(.agg #[sn,sn,sn,sn]),(.bool false)],⟨cn,f.get _ _ Z,trivial⟩,f.d,_,[cf,ch,cj,cl],(gt ap (gt aA (gt aN (gt aU (gt a0 (gt a7 (gt bd (gt bp (gt bs (gt bA bZ)))))))))),m,_,_,_,_,_,_,_,_,Z,Z,cg,ci,ck,cm⟩
   ·refine Ai f Z cd ?_
    refine Am ?_
    refine Ae ?_
    refine Ab f Z λa f=>l_o f (Bg (f.e Z)) λa f=>AW underlying65 Z sizeOf38 f Z λa f=>AC 0 0 (ds:=[b1,b3,b5,b7]) m DJ f Z Z Z Z Z λa f=>AA 5 0 (ds:=[b1,b3,b5,b7]) m sizeOf38 f Z Z Z (Ao (Ow.one1 1 m b9 Z) (Ao (Ow.one1 2 m ca Z) (Ao (Ow.one1 3 m cb Z) (Ao (Ow.one1 4 m cc Z) AK)))) Z (lb Z) Z λw m=>Ac f Z λa f=>Aa ?_
    refine Ap ?_
    have co:=CO (P:=prog) 5 m DJ f (s:=4) rfl rfl rfl
    have m:=m.fr 4
    have m:=m.fr 4
    have m:Mem W bX w (b4::b6::b8::ib bf 65 [b1,b3,b5,b7,aW,a9]::b2::ib al 38 [b1,b3,b5,b7]::ib ak 32 [ab,ac]::ib aj 29 [aa]::H):=m.fr 4
    have m:=m.fr 4
    have m:=m.eraseAt 7
    have m:Mem W bX w (b2::b4::b6::b8::ib bf 65 [b1,b3,b5,b7,aW,a9]::ib al 38 [b1,b3,b5,b7]::H):=m.eraseAt 6
    have m:=m.eraseAt 5
    have m:=m.eraseAt 4
    obtain rfl:=sj hd
    exact⟨[(.agg #[b1,b3,b5,b7]),(.bool true)],⟨co,f.get _ _ Z,trivial⟩,f.d,_,[b2,b4,b6,b8],(gt ap (gt aA (gt aN (gt aU (gt a0 (gt a7 (gt bd (gt bp (gt bs (gt bA bZ)))))))))),m,_,_,_,_,_,_,_,_,Z,Z,b9,ca,cb,cc⟩
theorem Wk.y {v0 v1:Value}{x0 x1:LI}(m:Mem W G w (H))(h0:R1 G v0 x0)(h1:R1 G v1 x1){y:Bool}(hd:D.y x0 x1=some y):
  Calls prog 81 #[v0,v1] w (Res W G H (λ_ Ho v=>Ho=[]∧v=(.bool y))):=by
 refine Au (args:=[v0,v1]) (N:=26) [.tmp 4] func81 Z Z (lb Z) Z λa f=> ?_
 unfold D.y at hd
 refine Ae ?_
 refine Ac f Z λa f=>Aa (Ag (Ae ?_))
 refine Ab f Z λa f=>AL underlying35 f Z Z h0 λa f=>Ab f Z λa f=>AL underlying35 f Z Z h1 λa f=>Ah f Z Z Cm λa f=>Aa ?_
 rcases Af hd with⟨aa,hd⟩|⟨aa,hd⟩
 ·refine Al f Z aa ?_
  refine Ae ?_
  refine Ac f Z λa f=>Aa ?_
  refine Ap ?_
  obtain rfl:=sj hd
  exact⟨[(.bool false)],f.g Z,f.d,_,[],gr,m,Z,Z⟩
 ·refine Ai f Z aa ?_
  refine Am ?_
  refine Ag (Ae ?_)
  refine Ac f Z λa f=>Aa ?_
  have⟨ab,ac,hd⟩:=bind_some hd
  refine AM (λa w=>∃q_36':Unit,ab= .inl q_36'∧∃(ad:GH),GLe G ad∧Fr a 26 []∧Mem W ad w (H)) ?_ ?_
  ·refine Ak ?_
   refine AO (λae a w=>∃af:Int,af=ae∧∃(ag:GH),GLe G ag∧Fr a 26 [(0,v0),(1,v1),(5,(iv af))]∧Mem W ag w (H)) ac ⟨_,Z,_,gr,f.k Z,m⟩ ?_
   clear ac f m
   rintro ae ah ai aj a w ⟨af,rfl,ag,ak,f,m⟩
   have h0:=rd1 ak h0
   have h1:=rd1 ak h1
   refine Ag (Ae ?_)
   refine Ab f Z λa f=>Ab f Z λa f=>AL underlying35 f Z Z h0 λa f=>Ah f Z Z AR λa f=>Aa ?_
   rcases Af ai with⟨al,ai⟩|⟨al,ai⟩
   ·refine Al f Z al ?_
    refine Am ?_
    refine Ag (Ak (Ag ?_))
    refine Bf 9 AU (by kernel_rfl) m ?_
    refine An 0 9 Z f Z λa f=>An 1 9 Z f Z λa f=> ?_
    have⟨am,an,ai⟩:=bind_some ai
    refine A8 2 9 T35 h0 an Z f Z Z λao ap a aq ar f=> ?_
    subst ar
    refine A9 3 9 Pl2 aq Z f Z λa f=>An 4 9 Z f Z λa f=>An 5 9 Z f Z λa f=> ?_
    have⟨au,av,ai⟩:=bind_some ai
    refine A8 6 9 T35 h1 av Z f Z Z λaw ax a ay az f=> ?_
    subst az
    refine A9 7 9 Pl2 ay Z f Z λa f=>q_p 8 9 Z f (λ_=>Bn (f.e Z) (f.e Z) Cm) λa f=>A2 λaA w aB m=>Aa ?_
    rcases Af ai with⟨aC,ai⟩|⟨aC,ai⟩
    ·refine Al f Z aC ?_
     refine Ae ?_
     refine Ac f Z λa f=>Aa ?_
     refine Ap ?_
     obtain rfl:=sj ai
     obtain rfl:=aj _ rfl
     obtain rfl:=sj hd
     exact⟨[(.bool false)],f.g Z,f.d,_,[],(gt ak aB),m,Z,Z⟩
    ·refine Ai f Z aC ?_
     refine Am ?_
     refine Aj ?_
     refine Ab f Z λa f=>Ah f Z Z AB λa f=>Ac f Z λa f=>Aa ?_
     obtain rfl:=sj ai
     exact⟨_,Z,_,Z,_,(gt ak aB),f.k Z,m⟩
   ·refine Ai f Z al ?_
    refine AG Z ?_
    obtain rfl:=sj ai
    obtain rfl:=aj _ rfl
    exact⟨_,Z,_,ak,f.weak trivial,m⟩
  ·rintro a w ⟨_,rfl,ad,aD,f,m⟩
   refine Ae ?_
   refine Ac f Z λa f=>Aa ?_
   refine Ap ?_
   obtain rfl:=sj hd
   exact⟨[(.bool true)],f.g Z,f.d,_,[],aD,m,Z,Z⟩
theorem Wk.z {v0 v1:Value}{x0 x1:LI}{x2:Int}(m:Mem W G w (H))(h0:R1 G v0 x0)(h1:R1 G v1 x1){y:Bool}(hd:D.z x0 x1 x2=some y):
  Calls prog 80 #[v0,v1,(iv x2)] w (Res W G H (λ_ Ho v=>Ho=[]∧v=(.bool y))):=by
 refine Au (args:=[v0,v1,(iv x2)]) (N:=18) [.tmp 6] func80 Z Z (lb Z) Z λa f=> ?_
 unfold D.z at hd
 refine Ae ?_
 refine Ac f Z λa f=>AD ?_
 refine Ab f Z λa f=>Ab f Z λa f=> ?_
 have⟨aa,ab,hd⟩:=bind_some hd
 refine Bd f Z call21 (Wk.o m h0 ab) λac w ad m a f=> ?_
 have h0:=rd1 ad h0
 have h1:=rd1 ad h1
 refine l_o f (By (f.e Z)) λa f=>Ab f Z λa f=> ?_
 have⟨ae,af,hd⟩:=bind_some hd
 refine Bx 6 (λa w=>∃ag,GLe ac ag∧Mem W ag w (H)∧Fr a 18 [(0,v0),(1,v1),(2,(iv x2)),(7,v0),(8,(iv x2)),(9,(.bool aa)),(10,(.bool (!aa))),(11,(.bool (!aa))),(17,(.bool ae))]) ?_ ?_
 ·rcases Af af with⟨ah,af⟩|⟨ah,af⟩
  ·refine Aq f ah ?_
   refine Ab f Z λa f=>Aq f ah ?_
   refine Ab f Z λa f=>Aq f ah ?_
   have⟨ai,aj,af⟩:=bind_some af
   refine AX f Z call19 (Wk.x m h0 aj) λak al am w an m ao a f=> ?_
   obtain⟨ap,rfl,rfl,aq⟩:=ao
   have h1:=rd1 an h1
   refine Aq f ah ?_
   refine Ab f Z λa f=>Aq f ah ?_
   have⟨ar,au,af⟩:=bind_some af
   refine Bd f Z call81 (Wk.y m aq h1 au) λav w aw m a f=>l_o f (AI (f.e Z) ah (f.e Z)) λa f=> ?_
   obtain rfl:=sj af
   exact⟨_,(gt an aw),m,f.k Z⟩
  ·refine Ar f ah λa f=> ?_
   refine Ar f ah λa f=>Ar f ah λa f=>Ar f ah λa f=>Ar f ah λa f=>l_o f (AJ (f.e Z) ah (f.e Z)) λa f=> ?_
   obtain rfl:=sj af
   exact⟨_,gr,m,f.k Z⟩
 ·rintro a w ⟨ag,ax,m,f⟩
  refine Ac f Z λa f=>Aa ?_
  refine Ap ?_
  obtain rfl:=sj hd
  exact⟨[(.bool ae)],f.g Z,f.d,_,[],(gt ad ax),m,Z,Z⟩
set_option maxHeartbeats 1000000 in
theorem Wk.c0 {aa ab ac ad ae:Value}{af:LL}{ag ah:LI}{ai aj:LL}{x2:Int}(m:Mem W G w (H))(ak:R2 G aa af)(al:R1 G ab ag)(am:R1 G ac ah)(an:R2 G ad ai)(ao:R2 G ae aj){y:Bool}(hd:D.c0 af ag ah ai aj x2=some y):
  Calls prog 31 #[(.agg #[aa]),(.agg #[ab,ac,ad,ae]),(iv x2)] w (Res W G H (λ_ Ho v=>Ho=[]∧v=(.bool y))):=by
 refine Au (args:=[(.agg #[aa]),(.agg #[ab,ac,ad,ae]),(iv x2)]) (N:=144) [.tmp 6] func31 Z Z (lb Z) Z λa f=> ?_
 unfold D.c0 at hd
 refine Ae ?_
 refine Bo (cs:=[aa]) m f Z Z Z λap w a m f=>Bo (cs:=[ab,ac,ad,ae]) m f Z Z Z λaq w a m f=>Ac f Z λa f=>AD ?_
 refine AW underlying38 Z sizeOf27 f Z λa f=>As 0 2 m Be f Z Z Z Z λa f=>Ab f Z λa f=> ?_
 have⟨ar,au,hd⟩:=bind_some hd
 refine A4 T27 f Z Z Z an au λav aw a ax ay f=>Ax m Ba f Z Z ax λa f=>Ac f Z λa f=>AD ?_
 refine AW underlying38 Z sizeOf27 f Z λa f=>As 0 3 m Be f Z Z Z Z λa f=>Ab f Z λa f=> ?_
 have⟨az,aA,hd⟩:=bind_some hd
 refine A4 T27 f Z Z Z ao aA λaB aC a aD aE f=>Ax m Ba f Z Z aD λa f=>Ac f Z λa f=>Aa (Ag (Ae ?_))
 refine Ab f Z λa f=>AL underlying35 f Z Z ay λa f=>Ah f Z Z Cz λa f=>Ab f Z λa f=> ?_
 have⟨aF,aG,hd⟩:=bind_some hd
 refine Bx 6 (λa w=>∃aH,GLe G aH∧Mem W aH w (ib aq 38 [ab,ac,ad,ae]::ib ap 29 [aa]::H)∧Fr a 144 [(0,(.agg #[aa])),(1,(.agg #[ab,ac,ad,ae])),(2,(iv x2)),(3,(pb ap)),(4,(pb aq)),(7,aw),(8,aC),(20,aw),(21,(iv (ar.length:Int))),(22,(.bool (decide ((8:Int)<(ar.length:Int))))),(23,(.bool (decide ((8:Int)<(ar.length:Int))))),(29,(.bool aF))]) ?_ ?_
 ·rcases Af aG with⟨aI,aG⟩|⟨aI,aG⟩
  ·refine Ar f aI λa f=> ?_
   refine Ar f aI λa f=>Ar f aI λa f=>Ar f aI λa f=>Ar f aI λa f=>l_o f (AI (f.e Z) aI (f.e Z)) λa f=> ?_
   obtain rfl:=sj aG
   exact⟨_,gr,m,f.k Z⟩
  ·refine Aq f aI ?_
   refine Ab f Z λa f=>Aq f aI ?_
   refine AC 1 0 (ds:=[aa]) m Bv f Z Z Z Z Z λa f=>Aq f aI ?_
   have⟨aJ,aK,aG⟩:=bind_some aG
   refine Bd f Z call64 (Wk.f m ak aK) λaL w aM m a f=> ?_
   have ay:=rd1 aM ay
   refine Aq f aI ?_
   have⟨aN,aO,aG⟩:=bind_some aG
   refine Bd f Z call60 (Wk.C m ay aO) λaP w aQ m a f=>Aq f aI ?_
   refine l_o f (By (f.e Z)) λa f=>l_o f (AJ (f.e Z) aI (f.e Z)) λa f=> ?_
   obtain rfl:=sj aG
   exact⟨_,(gt aM aQ),m,f.k Z⟩
 ·rintro a w ⟨aH,aR,m,f⟩
  have al:=rd1 aR al
  have am:=rd1 aR am
  have an:=rd2 aR an
  have ay:=rd1 aR ay
  have aE:=rd1 aR aE
  refine Aa ?_
  rcases Af hd with⟨aS,hd⟩|⟨aS,hd⟩
  ·refine Al f Z aS ?_
   refine Ae ?_
   refine Ac f Z λa f=>Aa ?_
   refine Ap ?_
   have m:Mem W aH w H:=Mem.drop (H':=[ib aq 38 [ab,ac,ad,ae],ib ap 29 [aa]]) m
   obtain rfl:=sj hd
   exact⟨[(.bool false)],f.g Z,f.d,_,[],aR,m,Z,Z⟩
  ·refine Ai f Z aS ?_
   refine Am ?_
   refine Ag (Ae ?_)
   refine Ac f Z λa f=>Aa ?_
   have⟨aT,aU,hd⟩:=bind_some hd
   refine AM (λa w=>∃q_97':Unit,aT= .inl q_97'∧∃(aV:GH),GLe aH aV∧Fr a 144 [(2,(iv x2)),(4,(pb aq)),(7,aw),(8,aC)]∧Mem W aV w (ib aq 38 [ab,ac,ad,ae]::H)) ?_ ?_
   ·refine Ak ?_
    have m:=m.eraseAt 1
    refine AO (λaW a w=>∃aX:Int,aX=aW∧∃(aY:GH),GLe aH aY∧Fr a 144 [(2,(iv x2)),(4,(pb aq)),(7,aw),(8,aC),(9,(iv aX))]∧Mem W aY w (ib aq 38 [ab,ac,ad,ae]::H)) aU ⟨_,Z,_,gr,f.k Z,m⟩ ?_
    clear aU f m
    rintro aW aZ a0 a1 a w ⟨aX,rfl,aY,a2,f,m⟩
    have aE:=rd1 a2 aE
    refine Ag (Ae ?_)
    refine Ab f Z λa f=>Ab f Z λa f=>AL underlying35 f Z Z aE λa f=>Ah f Z Z AR λa f=>Aa ?_
    rcases Af a0 with⟨a3,a0⟩|⟨a3,a0⟩
    ·refine Al f Z a3 ?_
     refine Am ?_
     refine Ag (Ak (Ae ?_))
     refine Ab f Z λa f=>Ab f Z λa f=> ?_
     have⟨a4,a5,a0⟩:=bind_some a0
     refine A4 T35 f Z Z Z aE a5 λa6 a7 a a8 a9 f=> ?_
     subst a9
     refine Ax m Pl2 f Z Z a8 λa f=>Ab f Z λa f=>Ah f Z Z Ck λa f=> ?_
     have⟨ba,bb,a0⟩:=bind_some a0
     refine Bd f Z call58 (Wk.e m bb) λbc w bd m a f=>l_o f (By (f.e Z)) λa f=>Aa ?_
     rcases Af a0 with⟨be,a0⟩|⟨be,a0⟩
     ·refine Al f Z be ?_
      refine Ae ?_
      refine Ac f Z λa f=>Aa ?_
      refine Ap ?_
      have m:Mem W bc w H:=Mem.drop (H':=[ib aq 38 [ab,ac,ad,ae]]) m
      obtain rfl:=sj a0
      obtain rfl:=a1 _ rfl
      obtain rfl:=sj hd
      exact⟨[(.bool false)],f.g Z,f.d,_,[],(gt aR (gt a2 bd)),m,Z,Z⟩
     ·refine Ai f Z be ?_
      refine Am ?_
      refine Aj ?_
      refine Ab f Z λa f=>Ah f Z Z AB λa f=>Ac f Z λa f=>Aa ?_
      obtain rfl:=sj a0
      exact⟨_,Z,_,Z,_,(gt a2 bd),f.k Z,m⟩
    ·refine Ai f Z a3 ?_
     refine AG Z ?_
     obtain rfl:=sj a0
     obtain rfl:=a1 _ rfl
     exact⟨_,Z,_,a2,f.k Z,m⟩
   ·rintro a w ⟨_,rfl,aV,bf,f,m⟩
    have ay:=rd1 bf ay
    have aE:=rd1 bf aE
    have al:=rd1 bf al
    have am:=rd1 bf am
    have an:=rd2 bf an
    refine Ag (Ae ?_)
    refine AW underlying38 Z sizeOf35 f Z λa f=>As 0 0 m Ba f Z Z Z Z λa f=>Ab f Z λa f=> ?_
    have⟨bg,bh,hd⟩:=bind_some hd
    refine A4 T35 f Z Z Z al bh λbi bj a bk bl f=> ?_
    subst bl
    refine Ax m Pl2 f Z Z bk λa f=>Aa (Ak (Ae ?_))
    refine Ah f Z Z Bj λa f=>Ac f Z λa f=>Aa ?_
    rcases Af hd with⟨bm,hd⟩|⟨bm,hd⟩
    ·refine Al f Z bm ?_
     refine Ae ?_
     refine AW underlying38 Z sizeOf35 f Z λa f=>As 0 1 m Ba f Z Z Z Z λa f=>Ab f Z λa f=> ?_
     have⟨bn,bo,hd⟩:=bind_some hd
     refine A4 T35 f Z Z Z am bo λbp bq a br bs f=> ?_
     subst bs
     refine Ax m Pl2 f Z Z br λa f=>Ah f Z Z Bj λa f=>Ab f Z λa f=> ?_
     refine Bx 4 (λa w=>∃bt,GLe aV bt∧Mem W bt w (ib aq 38 [ab,ac,ad,ae]::H)∧Fr a 144 [(2,(iv x2)),(4,(pb aq)),(7,aw),(8,aC),(48,(iv bg)),(49,(.bool (bg==1))),(51,(.pointer (some ⟨aq,1,none⟩))),(52,ac),(53,(iv x2)),(54,bp),(55,(iv bn)),(56,(.bool (bn==(-1)))),(57,(.bool (bn==(-1)))),(61,(.bool ((bn==(-1))&&((ar.length:Int)==0))))]) ?_ ?_
     ·rcases Bool.eq_false_or_eq_true (bn==(-1)) with bu|bu
      ·refine Aq f bu ?_
       refine Ab f Z λa f=>Aq f bu ?_
       refine AL underlying35 f Z Z ay λa f=>Aq f bu ?_
       refine Ah f Z Z Bj λa f=>l_o f (AI (f.e Z) bu (f.e Z)) λa f=> ?_
       exact⟨_,gr,m,f.weak ⟨Z,Z,Z,Z,Z,Z,Z,Z,Z,Z,Z,Z,Z,by rw[bu];rfl,trivial⟩⟩
      ·refine Ar f bu λa f=> ?_
       refine Ar f bu λa f=>Ar f bu λa f=>l_o f (AJ (f.e Z) bu (f.e Z)) λa f=> ?_
       exact⟨_,gr,m,f.weak ⟨Z,Z,Z,Z,Z,Z,Z,Z,Z,Z,Z,Z,Z,by rw[bu];rfl,trivial⟩⟩
     ·rintro a w ⟨bt,bv,m,f⟩
      have aE:=rd1 bv aE
      refine Ab f Z λa f=> ?_
      refine Bx 4 (λa w=>∃bw,GLe bt bw∧Mem W bw w (ib aq 38 [ab,ac,ad,ae]::H)∧Fr a 144 [(2,(iv x2)),(4,(pb aq)),(7,aw),(8,aC),(48,(iv bg)),(49,(.bool (bg==1))),(51,(.pointer (some ⟨aq,1,none⟩))),(52,ac),(53,(iv x2)),(54,bp),(55,(iv bn)),(56,(.bool (bn==(-1)))),(57,(.bool (bn==(-1)))),(61,(.bool ((bn==(-1))&&((ar.length:Int)==0)))),(62,(.bool ((bn==(-1))&&((ar.length:Int)==0)))),(66,(.bool (((bn==(-1))&&((ar.length:Int)==0))&&((az.length:Int)==0))))]) ?_ ?_
      ·rcases Bool.eq_false_or_eq_true ((bn==(-1))&&((ar.length:Int)==0)) with bx|bx
       ·refine Aq f bx ?_
        refine Ab f Z λa f=>Aq f bx ?_
        refine AL underlying35 f Z Z aE λa f=>Aq f bx ?_
        refine Ah f Z Z Bj λa f=>l_o f (AI (f.e Z) bx (f.e Z)) λa f=> ?_
        exact⟨_,gr,m,f.weak ⟨Z,Z,Z,Z,Z,Z,Z,Z,Z,Z,Z,Z,Z,Z,Z,by rw[bx];rfl,trivial⟩⟩
       ·refine Ar f bx λa f=> ?_
        refine Ar f bx λa f=>Ar f bx λa f=>l_o f (AJ (f.e Z) bx (f.e Z)) λa f=> ?_
        exact⟨_,gr,m,f.weak ⟨Z,Z,Z,Z,Z,Z,Z,Z,Z,Z,Z,Z,Z,Z,Z,by rw[bx];rfl,trivial⟩⟩
      ·rintro a w ⟨bw,bz,m,f⟩
       refine Ac f Z λa f=>Aa ?_
       refine Ap ?_
       have m:Mem W bw w H:=Mem.drop (H':=[ib aq 38 [ab,ac,ad,ae]]) m
       obtain rfl:=sj hd
       exact⟨[(.bool (((bn==(-1))&&((ar.length:Int)==0))&&((az.length:Int)==0)))],f.g Z,f.d,_,[],(gt aR (gt bf (gt bv bz))),m,Z,Z⟩
    ·refine Ai f Z bm ?_
     refine Ae ?_
     refine Ah f Z Z Bj λa f=>Ac f Z λa f=>Aa ?_
     rcases Af hd with⟨bA,hd⟩|⟨bA,hd⟩
     ·refine Al f Z bA ?_
      refine Ag ?_
      refine Bf 20 AU (by kernel_rfl) m ?_
      refine An 0 20 Z f Z λa f=>q_len (i:=1) 20 underlying35 aE Z (by kernel_rfl) Z f Z Z Z λa f=>q_p 2 20 Z f (λ_=>Bn (f.e Z) (f.e Z) Bj) λa f=>An 3 20 Z f Z λa f=> ?_
      have⟨bB,bC,hd⟩:=bind_some hd
      refine Cw (fuel':=1) (listed':= #[true,true,true,true,true,true,true,true,true,true,true,true,true,true,true,true,true,true,true,false]) (λa=>Fr a 144 [(2,(iv x2)),(4,(pb aq)),(7,aw),(8,aC),(48,(iv bg)),(67,(.bool (bg==2))),(69,aC),(70,(iv (az.length:Int))),(71,(.bool ((az.length:Int)==1))),(72,(.bool ((az.length:Int)==1))),(87,(.bool bB))]) ?_ ?_
      ·intro a f
       refine q_p 19 20 Z f (λ_=>Bs (f.e Z)) λa f=>A2 λbD w bE m=>Aa ?_
       refine Ap ?_
       have m:Mem W bD w H:=Mem.drop (H':=[ib aq 38 [ab,ac,ad,ae]]) m
       obtain rfl:=sj hd
       exact⟨[(.bool bB)],f.g Z,f.d,_,[],(gt aR (gt bf bE)),m,Z,Z⟩
      ·intro bF
       rcases Af bC with⟨bG,bC⟩|⟨bG,bC⟩
       ·refine Bt (hw:=wo f bG) 4 20 underlying38 Z sizeOf27 Z f Z λa f=> ?_
        refine Br (hw:=wo f bG) 5 20 0 Be Z Z Z f Z λa f=>An (hw:=wo f bG) 6 20 Z f Z λa f=> ?_
        have⟨bH,bI,bC⟩:=bind_some bC
        refine A8 (hw:=wo f bG) 7 20 T35 aE bI Z f Z Z λbJ bK a bL bM f=> ?_
        subst bM
        refine A9 (hw:=wo f bG) 8 20 Pl2 bL Z f Z λa f=> ?_
        have⟨bN,bO,bC⟩:=bind_some bC
        refine A8 (hw:=wo f bG) 9 20 T27 an bO Z f Z Z λbP bQ a bR bS f=>A9 (hw:=wo f bG) 10 20 Ba bR Z f Z λa f=>An (hw:=wo f bG) 11 20 Z f Z λa f=>Bt (hw:=wo f bG) 12 20 underlying38 Z sizeOf35 Z f Z λa f=>Br (hw:=wo f bG) 13 20 0 Ba Z Z Z f Z λa f=>An (hw:=wo f bG) 14 20 Z f Z λa f=> ?_
        have⟨bT,bU,bC⟩:=bind_some bC
        refine A8 (hw:=wo f bG) 15 20 T35 am bU Z f Z Z λbV bW a bX bY f=> ?_
        subst bY
        refine A9 (hw:=wo f bG) 16 20 Pl2 bX Z f Z λa f=> ?_
        have⟨bZ,b0,bC⟩:=bind_some bC
        refine BJ (i:=17) 20 Z (by kernel_rfl) Z f (BH f Z Z Z bG) Z Z call80 (λ_ _ w b1 m=>Wk.z m (rd1 b1 bS) (rd1 b1 ay) b0) λa f=>q_p 18 20 Z f (λ_=>AI (f.e Z) bG (f.e Z)) λa f=> ?_
        obtain rfl:=sj bC
        exact bF _ (f.k Z)
       ·refine Aw 4 20 Z f bG λa f=> ?_
        refine Aw 5 20 Z f bG λa f=>Aw 6 20 Z f bG λa f=>Aw 7 20 Z f bG λa f=>Aw 8 20 Z f bG λa f=>Aw 9 20 Z f bG λa f=>Aw 10 20 Z f bG λa f=>Aw 11 20 Z f bG λa f=>Aw 12 20 Z f bG λa f=>Aw 13 20 Z f bG λa f=>Aw 14 20 Z f bG λa f=>Aw 15 20 Z f bG λa f=>Aw 16 20 Z f bG λa f=>Aw 17 20 Z f bG λa f=>q_p 18 20 Z f (λ_=>AJ (f.e Z) bG (f.e Z)) λa f=> ?_
        obtain rfl:=sj bC
        exact bF _ (f.k Z)
     ·refine Ai f Z bA ?_
      refine Ae ?_
      refine Ah f Z Z Bj λa f=>Ac f Z λa f=>Aa ?_
      rcases Af hd with⟨b2,hd⟩|⟨b2,hd⟩
      ·refine Al f Z b2 ?_
       refine Ag ?_
       refine Bf 20 AU (by kernel_rfl) m ?_
       refine An 0 20 Z f Z λa f=>q_len (i:=1) 20 underlying35 aE Z (by kernel_rfl) Z f Z Z Z λa f=>q_p 2 20 Z f (λ_=>Bn (f.e Z) (f.e Z) Bj) λa f=>An 3 20 Z f Z λa f=> ?_
       have⟨b3,b4,hd⟩:=bind_some hd
       refine Cw (fuel':=1) (listed':= #[true,true,true,true,true,true,true,true,true,true,true,true,true,true,true,true,true,true,true,false]) (λa=>Fr a 144 [(2,(iv x2)),(4,(pb aq)),(7,aw),(8,aC),(48,(iv bg)),(88,(.bool (bg==3))),(90,aC),(91,(iv (az.length:Int))),(92,(.bool ((az.length:Int)==1))),(93,(.bool ((az.length:Int)==1))),(108,(.bool b3))]) ?_ ?_
       ·intro a f
        refine q_p 19 20 Z f (λ_=>Bs (f.e Z)) λa f=>A2 λb5 w b6 m=>Aa ?_
        refine Ap ?_
        have m:Mem W b5 w H:=Mem.drop (H':=[ib aq 38 [ab,ac,ad,ae]]) m
        obtain rfl:=sj hd
        exact⟨[(.bool b3)],f.g Z,f.d,_,[],(gt aR (gt bf b6)),m,Z,Z⟩
       ·intro b7
        rcases Af b4 with⟨b8,b4⟩|⟨b8,b4⟩
        ·refine An (hw:=wo f b8) 4 20 Z f Z λa f=> ?_
         refine Bt (hw:=wo f b8) 5 20 underlying38 Z sizeOf27 Z f Z λa f=>Br (hw:=wo f b8) 6 20 0 Be Z Z Z f Z λa f=>An (hw:=wo f b8) 7 20 Z f Z λa f=> ?_
         have⟨b9,ca,b4⟩:=bind_some b4
         refine A8 (hw:=wo f b8) 8 20 T35 aE ca Z f Z Z λcb cc a cd ce f=> ?_
         subst ce
         refine A9 (hw:=wo f b8) 9 20 Pl2 cd Z f Z λa f=> ?_
         have⟨cf,cg,b4⟩:=bind_some b4
         refine A8 (hw:=wo f b8) 10 20 T27 an cg Z f Z Z λch ci a cj ck f=>A9 (hw:=wo f b8) 11 20 Ba cj Z f Z λa f=>Bt (hw:=wo f b8) 12 20 underlying38 Z sizeOf35 Z f Z λa f=>Br (hw:=wo f b8) 13 20 0 Ba Z Z Z f Z λa f=>An (hw:=wo f b8) 14 20 Z f Z λa f=> ?_
         have⟨cl,cm,b4⟩:=bind_some b4
         refine A8 (hw:=wo f b8) 15 20 T35 am cm Z f Z Z λcn co a cp cq f=> ?_
         subst cq
         refine A9 (hw:=wo f b8) 16 20 Pl2 cp Z f Z λa f=> ?_
         have⟨cr,ct,b4⟩:=bind_some b4
         refine BJ (i:=17) 20 Z (by kernel_rfl) Z f (BH f Z Z Z b8) Z Z call80 (λ_ _ w cu m=>Wk.z m (rd1 cu ay) (rd1 cu ck) ct) λa f=>q_p 18 20 Z f (λ_=>AI (f.e Z) b8 (f.e Z)) λa f=> ?_
         obtain rfl:=sj b4
         exact b7 _ (f.k Z)
        ·refine Aw 4 20 Z f b8 λa f=> ?_
         refine Aw 5 20 Z f b8 λa f=>Aw 6 20 Z f b8 λa f=>Aw 7 20 Z f b8 λa f=>Aw 8 20 Z f b8 λa f=>Aw 9 20 Z f b8 λa f=>Aw 10 20 Z f b8 λa f=>Aw 11 20 Z f b8 λa f=>Aw 12 20 Z f b8 λa f=>Aw 13 20 Z f b8 λa f=>Aw 14 20 Z f b8 λa f=>Aw 15 20 Z f b8 λa f=>Aw 16 20 Z f b8 λa f=>Aw 17 20 Z f b8 λa f=>q_p 18 20 Z f (λ_=>AJ (f.e Z) b8 (f.e Z)) λa f=> ?_
         obtain rfl:=sj b4
         exact b7 _ (f.k Z)
      ·refine Ai f Z b2 ?_
       refine Ae ?_
       refine Ah f Z Z Bj λa f=>Ac f Z λa f=>Aa ?_
       rcases Af hd with⟨cv,hd⟩|⟨cv,hd⟩
       ·refine Al f Z cv ?_
        refine Ag ?_
        refine Bf 34 AU (by kernel_rfl) m ?_
        refine Bt 0 34 underlying38 Z sizeOf35 Z f Z λa f=>Br 1 34 0 Ba Z Z Z f Z λa f=>An 2 34 Z f Z λa f=> ?_
        have⟨cw,cx,hd⟩:=bind_some hd
        refine A8 3 34 T35 am cx Z f Z Z λcy cz a cA cB f=> ?_
        subst cB
        refine A9 4 34 Pl2 cA Z f Z λa f=>q_p 5 34 Z f (λ_=>Bn (f.e Z) (f.e Z) Bj) λa f=>An 6 34 Z f Z λa f=>Cw (fuel':=23) (listed':= #[true,true,true,true,true,true,true,true,true,true,true,false,false,false,false,false,false,false,false,false,false,false,false,false,false,false,false,false,false,false,false,false,false,false]) (λa=>Fr a 144 [(2,(iv x2)),(4,(pb aq)),(7,aw),(8,aC),(109,(.bool (bg==4))),(111,(.pointer (some ⟨aq,1,none⟩))),(112,ac),(113,(iv x2)),(114,cy),(115,(iv cw)),(116,(.bool (cw==(-1)))),(117,(.bool (cw==(-1)))),(121,(.bool ((cw==(-1))&&((az.length:Int)==2))))]) ?_ ?_
        ·intro a f
         refine An 11 34 Z f Z λa f=> ?_
         have⟨cC,cD,hd⟩:=bind_some hd
         refine Cw (fuel':=12) (listed':= #[true,true,true,true,true,true,true,true,true,true,true,true,true,true,true,true,true,true,true,true,true,true,false,false,false,false,false,false,false,false,false,false,false,false]) (λa=>Fr a 144 [(2,(iv x2)),(4,(pb aq)),(7,aw),(8,aC),(109,(.bool (bg==4))),(111,(.pointer (some ⟨aq,1,none⟩))),(112,ac),(113,(iv x2)),(114,cy),(115,(iv cw)),(116,(.bool (cw==(-1)))),(117,(.bool (cw==(-1)))),(121,(.bool ((cw==(-1))&&((az.length:Int)==2)))),(122,(.bool ((cw==(-1))&&((az.length:Int)==2)))),(132,(.bool cC))]) ?_ ?_
         ·intro a f
          refine An 22 34 Z f Z λa f=> ?_
          have⟨cE,cF,hd⟩:=bind_some hd
          refine Cw (fuel':=1) (listed':= #[true,true,true,true,true,true,true,true,true,true,true,true,true,true,true,true,true,true,true,true,true,true,true,true,true,true,true,true,true,true,true,true,true,false]) (λa=>Fr a 144 [(2,(iv x2)),(4,(pb aq)),(7,aw),(8,aC),(109,(.bool (bg==4))),(111,(.pointer (some ⟨aq,1,none⟩))),(112,ac),(113,(iv x2)),(114,cy),(115,(iv cw)),(116,(.bool (cw==(-1)))),(117,(.bool (cw==(-1)))),(121,(.bool ((cw==(-1))&&((az.length:Int)==2)))),(122,(.bool ((cw==(-1))&&((az.length:Int)==2)))),(132,(.bool cC)),(133,(.bool cC)),(143,(.bool cE))]) ?_ ?_
          ·intro a f
           refine q_p 33 34 Z f (λ_=>Bs (f.e Z)) λa f=>A2 λcG w cH m=>Aa ?_
           refine Ap ?_
           have m:Mem W cG w H:=Mem.drop (H':=[ib aq 38 [ab,ac,ad,ae]]) m
           obtain rfl:=sj hd
           exact⟨[(.bool cE)],f.g Z,f.d,_,[],(gt aR (gt bf cH)),m,Z,Z⟩
          ·intro cI
           rcases Af cF with⟨cJ,cF⟩|⟨cJ,cF⟩
           ·refine Bt (hw:=wo f cJ) 23 34 underlying38 Z sizeOf27 Z f Z λa f=> ?_
            refine Br (hw:=wo f cJ) 24 34 0 Be Z Z Z f Z λa f=>An (hw:=wo f cJ) 25 34 Z f Z λa f=> ?_
            have⟨cK,cL,cF⟩:=bind_some cF
            refine A8 (hw:=wo f cJ) 26 34 T35 aE cL Z f Z Z λcM cN a cO cP f=> ?_
            subst cP
            refine A9 (hw:=wo f cJ) 27 34 Pl2 cO Z f Z λa f=> ?_
            have⟨cQ,cR,cF⟩:=bind_some cF
            refine A8 (hw:=wo f cJ) 28 34 T27 an cR Z f Z Z λcS cT a cU cV f=>A9 (hw:=wo f cJ) 29 34 Ba cU Z f Z λa f=>An (hw:=wo f cJ) 30 34 Z f Z λa f=> ?_
            have⟨cW,cX,cF⟩:=bind_some cF
            refine BJ (i:=31) 34 Z (by kernel_rfl) Z f (BH f Z Z Z cJ) Z Z call81 (λ_ _ w cY m=>Wk.y m (rd1 cY cV) (rd1 cY ay) cX) λa f=>q_p 32 34 Z f (λ_=>AI (f.e Z) cJ (f.e Z)) λa f=> ?_
            obtain rfl:=sj cF
            exact cI _ (f.k Z)
           ·refine Aw 23 34 Z f cJ λa f=> ?_
            refine Aw 24 34 Z f cJ λa f=>Aw 25 34 Z f cJ λa f=>Aw 26 34 Z f cJ λa f=>Aw 27 34 Z f cJ λa f=>Aw 28 34 Z f cJ λa f=>Aw 29 34 Z f cJ λa f=>Aw 30 34 Z f cJ λa f=>Aw 31 34 Z f cJ λa f=>q_p 32 34 Z f (λ_=>AJ (f.e Z) cJ (f.e Z)) λa f=> ?_
            obtain rfl:=sj cF
            exact cI _ (f.k Z)
         ·intro cZ
          rcases Af cD with⟨c0,cD⟩|⟨c0,cD⟩
          ·refine Bt (hw:=wo f c0) 12 34 underlying38 Z sizeOf27 Z f Z λa f=> ?_
           refine Br (hw:=wo f c0) 13 34 0 Be Z Z Z f Z λa f=>An (hw:=wo f c0) 14 34 Z f Z λa f=> ?_
           have⟨c1,c2,cD⟩:=bind_some cD
           refine A8 (hw:=wo f c0) 15 34 T35 aE c2 Z f Z Z λc3 c4 a c5 c6 f=> ?_
           subst c6
           refine A9 (hw:=wo f c0) 16 34 Pl2 c5 Z f Z λa f=> ?_
           have⟨c7,c8,cD⟩:=bind_some cD
           refine A8 (hw:=wo f c0) 17 34 T27 an c8 Z f Z Z λc9 da a db dc f=>A9 (hw:=wo f c0) 18 34 Ba db Z f Z λa f=>An (hw:=wo f c0) 19 34 Z f Z λa f=> ?_
           have⟨dd,de,cD⟩:=bind_some cD
           refine BJ (i:=20) 34 Z (by kernel_rfl) Z f (BH f Z Z Z c0) Z Z call81 (λ_ _ w df m=>Wk.y m (rd1 df dc) (rd1 df ay) de) λa f=>q_p 21 34 Z f (λ_=>AI (f.e Z) c0 (f.e Z)) λa f=> ?_
           obtain rfl:=sj cD
           exact cZ _ (f.k Z)
          ·refine Aw 12 34 Z f c0 λa f=> ?_
           refine Aw 13 34 Z f c0 λa f=>Aw 14 34 Z f c0 λa f=>Aw 15 34 Z f c0 λa f=>Aw 16 34 Z f c0 λa f=>Aw 17 34 Z f c0 λa f=>Aw 18 34 Z f c0 λa f=>Aw 19 34 Z f c0 λa f=>Aw 20 34 Z f c0 λa f=>q_p 21 34 Z f (λ_=>AJ (f.e Z) c0 (f.e Z)) λa f=> ?_
           obtain rfl:=sj cD
           exact cZ _ (f.k Z)
        ·intro dg
         rcases Bool.eq_false_or_eq_true (cw==(-1)) with dh|dh
         ·refine An (hw:=wo f dh) 7 34 Z f Z λa f=> ?_
          refine q_len (i:=8) 34 underlying35 aE Z (by kernel_rfl) Z f (BH f Z Z Z dh) Z Z λa f=>q_p (hw:=wo f dh) 9 34 Z f (λ_=>Bn (f.e Z) (f.e Z) Bj) λa f=>q_p 10 34 Z f (λ_=>AI (f.e Z) dh (f.e Z)) λa f=> ?_
          exact dg _ (f.weak ⟨Z,Z,Z,Z,Z,Z,Z,Z,Z,Z,Z,Z,by rw[dh];rfl,trivial⟩)
         ·refine Aw 7 34 Z f dh λa f=> ?_
          refine Aw 8 34 Z f dh λa f=>Aw 9 34 Z f dh λa f=>q_p 10 34 Z f (λ_=>AJ (f.e Z) dh (f.e Z)) λa f=> ?_
          exact dg _ (f.weak ⟨Z,Z,Z,Z,Z,Z,Z,Z,Z,Z,Z,Z,by rw[dh];rfl,trivial⟩)
       ·refine Ai f Z cv ?_
        refine Am ?_
        refine Ae ?_
        refine Ac f Z λa f=>Aa ?_
        refine Ap ?_
        have m:Mem W aV w H:=Mem.drop (H':=[ib aq 38 [ab,ac,ad,ae]]) m
        obtain rfl:=sj hd
        exact⟨[(.bool false)],f.g Z,f.d,_,[],(gt aR bf),m,Z,Z⟩
theorem Wk.x0 {aa ab ac ad:Value}{ae af:LI}{ag ah:LL}(m:Mem W G w (H))(ai:R1 G aa ae)(aj:R1 G ab af)(ak:R2 G ac ag)(al:R2 G ad ah){y:Bool}(hd:D.x0 ae af ag ah=some y):
  Calls prog 32 #[(.agg #[aa,ab,ac,ad])] w (Res W G H (λ_ Ho v=>Ho=[]∧v=(.bool y))):=by
 refine Au (args:=[(.agg #[aa,ab,ac,ad])]) (N:=53) [.tmp 2] func32 Z Z (lb Z) Z λa f=> ?_
 unfold D.x0 at hd
 refine Ae ?_
 refine Bo (cs:=[aa,ab,ac,ad]) m f Z Z Z λam w a m f=>Ac f Z λa f=>AD ?_
 refine AW underlying38 Z sizeOf35 f Z λa f=>As 0 0 m Ba f Z Z Z Z λa f=>AL underlying35 f Z Z ai λa f=> ?_
 have⟨an,ao,hd⟩:=bind_some hd
 refine Co (R:=R0) m T35 Z (by decide) Z f Z Z Z ao λap aq w a m ar f=>Ac f Z λa f=>Aa (Ag (Ae ?_))
 refine Ac f Z λa f=>Aa ?_
 have⟨au,av,hd⟩:=bind_some hd
 refine AM (λa w=>∃aw:LI,aw=au∧∃(ax:GH) (ay:Itm),GLe G ax∧Fr a 53 [(3,aq)]∧Mem W ax w (ay::H)∧Ow R0 2 ax ay aq aw) ?_ ?_
 ·refine Ak ?_
  have m:=m.fr 1
  refine AO (λaz a w=>∃aA:LI,∃aB:Int,(aA,aB)=az∧∃(aC:GH) (aD:Itm),GLe G aC∧Fr a 53 [(1,(pb am)),(3,aq),(4,(iv aB))]∧Mem W aC w (ib am 38 [aa,ab,ac,ad]::aD::H)∧Ow R0 2 aC aD aq aA) av ⟨_,_,Z,_,ap,gr,f.k Z,m,ar⟩ ?_
  clear av f m
  rintro az aE aF aG a w ⟨aA,aB,rfl,aC,aD,aH,f,m,aI⟩
  have al:=rd2 aH al
  refine Ag (Ae ?_)
  refine Ab f Z λa f=>AW underlying38 Z sizeOf27 f Z λa f=>As 0 3 m Be f Z Z Z Z λa f=>AL underlying27 f Z Z al λa f=>Ah f Z Z AR λa f=>Aa ?_
  rcases Af aF with⟨aJ,aF⟩|⟨aJ,aF⟩
  ·refine Al f Z aJ ?_
   refine Am ?_
   refine Ag (Ak (Ae ?_))
   refine Ac f Z λa f=>Aa ?_
   have⟨aK,aL,aF⟩:=bind_some aF
   refine AM (λa w=>∃aM:LI,aM=aK∧∃(aN:GH) (aO:Itm),GLe aC aN∧Fr a 53 [(1,(pb am)),(3,aq),(4,(iv aB))]∧Mem W aN w (ib am 38 [aa,ab,ac,ad]::aO::H)∧Ow R0 2 aN aO aq aM) ?_ ?_
   ·refine Ak ?_
    refine AO (λaP a w=>∃aQ:LI,∃aR:Int,(aQ,aR)=aP∧∃(aS:GH) (aT:Itm),GLe aC aS∧Fr a 53 [(1,(pb am)),(3,aq),(4,(iv aB)),(5,(iv aR))]∧Mem W aS w (ib am 38 [aa,ab,ac,ad]::aT::H)∧Ow R0 2 aS aT aq aQ) aL ⟨_,_,Z,_,aD,gr,f.k Z,m,aI⟩ ?_
    clear aL f m
    rintro aP aU aV aW a w ⟨aQ,aR,rfl,aS,aT,aX,f,m,aY⟩
    have al:=rd2 aX al
    refine Ag (Ae ?_)
    refine Ab f Z λa f=>AW underlying38 Z sizeOf27 f Z λa f=>As 0 3 m Be f Z Z Z Z λa f=>Ab f Z λa f=> ?_
    have⟨aZ,a0,aV⟩:=bind_some aV
    refine A4 T27 f Z Z Z al a0 λa1 a2 a a3 a4 f=>Ax m Ba f Z Z a3 λa f=>AL underlying35 f Z Z a4 λa f=>Ah f Z Z AR λa f=>Aa ?_
    rcases Af aV with⟨a5,aV⟩|⟨a5,aV⟩
    ·refine Al f Z a5 ?_
     refine Am ?_
     refine Ag (Ak (Aj ?_))
     refine Ab f Z λa f=>AW underlying38 Z sizeOf27 f Z λa f=>As 0 3 m Be f Z Z Z Z λa f=>Ab f Z λa f=> ?_
     have⟨a6,a7,aV⟩:=bind_some aV
     refine A4 T27 f Z Z Z al a7 λa8 a9 a ba bb f=>Ax m Ba f Z Z ba λa f=>Ab f Z λa f=> ?_
     have⟨bc,bd,aV⟩:=bind_some aV
     refine A4 T35 f Z Z Z bb bd λbe bf a bg bh f=> ?_
     subst bh
     refine Ax m Pl2 f Z Z bg λa f=> ?_
     have⟨bi,bj,aV⟩:=bind_some aV
     refine Bi 1 m aY Z T35 f Z Z Z bj λbk a bl f=>Bk 1 m aY Z Pl2 f Z Z bl bj λbm a bn f=> ?_
     subst bn
     refine Ah f Z Z AB λa f=> ?_
     have⟨bo,bp,aV⟩:=bind_some aV
     refine Bi 1 m aY Z T35 f Z Z Z bp λbq a br f=>BN 1 m aY Z sizeOf2 f Z Z br bp Z Z Z λbs w m bt=>Aa (Aj ?_)
     refine Ab f Z λa f=>Ah f Z Z AB λa f=>Ac f Z λa f=>Aa ?_
     obtain rfl:=sj aV
     exact⟨_,Z,_,_,Z,_,bs,aX,f.k Z,m,bt⟩
    ·refine Ai f Z a5 ?_
     refine AG Z ?_
     obtain rfl:=sj aV
     obtain rfl:=aW _ rfl
     exact⟨_,Z,_,aT,aX,f.k Z,m,aY⟩
   ·rintro a w ⟨aM,rfl,aN,aO,bu,f,m,bv⟩
    refine Aj ?_
    refine Ab f Z λa f=>Ah f Z Z AB λa f=>Ac f Z λa f=>Aa ?_
    obtain rfl:=sj aF
    exact⟨_,Z,_,_,Z,_,aO,(gt aH bu),f.k Z,m,bv⟩
  ·refine Ai f Z aJ ?_
   refine AG Z ?_
   have m:=m.fr 1
   have m:=m.eraseAt 1
   obtain rfl:=sj aF
   obtain rfl:=aG _ rfl
   exact⟨_,Z,_,aD,aH,f.k Z,m,aI⟩
 ·rintro a w ⟨aw,rfl,ax,ay,bw,f,m,bx⟩
  refine Ag (Ae ?_)
  refine Ac f Z λa f=>Aa ?_
  have⟨bz,bA,hd⟩:=bind_some hd
  refine AM (λa w=>∃q_637':Unit,bz= .inl q_637'∧∃(bB:GH),GLe ax bB∧Fr a 53 []∧Mem W bB w (H)) ?_ ?_
  ·refine Ak ?_
   refine AO (λbC a w=>∃bD:Int,bD=bC∧∃(bE:GH),GLe ax bE∧Fr a 53 [(3,aq),(6,(iv bD))]∧Mem W bE w (ay::H)) bA ⟨_,Z,_,gr,f.k Z,m⟩ ?_
   clear bA f m
   rintro bC bF bG bH a w ⟨bD,rfl,bE,bI,f,m⟩
   have bx:=od1 bI bx
   refine Ag (Ae ?_)
   refine Ab f Z λa f=>Ah f Z Z AB λa f=>Ab f Z λa f=>B4 0 m bx Z underlying35 f Z Z λa f=>Ah f Z Z AR λa f=>Aa ?_
   rcases Af bG with⟨bJ,bG⟩|⟨bJ,bG⟩
   ·refine Al f Z bJ ?_
    refine Am ?_
    refine Ag (Ak (Ae ?_))
    refine Ab f Z λa f=>Ab f Z λa f=> ?_
    have⟨bK,bL,bG⟩:=bind_some bG
    refine Bi 0 m bx Z T35 f Z Z Z bL λbM a bN f=>Bk 0 m bx Z Pl2 f Z Z bN bL λbO a bP f=> ?_
    subst bP
    refine Ah f Z Z Cm λa f=>Aa ?_
    rcases Af bG with⟨bQ,bG⟩|⟨bQ,bG⟩
    ·refine Al f Z bQ ?_
     refine Ae ?_
     refine Ac f Z λa f=>Aa ?_
     refine Ap ?_
     have m:Mem W bE w H:=Mem.drop (H':=[ay]) m
     obtain rfl:=sj bG
     obtain rfl:=bH _ rfl
     obtain rfl:=sj hd
     exact⟨[(.bool false)],f.g Z,f.d,_,[],(gt bw bI),m,Z,Z⟩
    ·refine Ai f Z bQ ?_
     refine Am ?_
     refine Aj ?_
     refine Ab f Z λa f=>Ah f Z Z AB λa f=>Ac f Z λa f=>Aa ?_
     obtain rfl:=sj bG
     exact⟨_,Z,_,Z,_,bI,f.k Z,m⟩
   ·refine Ai f Z bJ ?_
    refine AG Z ?_
    have m:Mem W bE w H:=Mem.drop (H':=[ay]) m
    obtain rfl:=sj bG
    obtain rfl:=bH _ rfl
    exact⟨_,Z,_,bI,f.weak trivial,m⟩
  ·rintro a w ⟨_,rfl,bB,bR,f,m⟩
   refine Ae ?_
   refine Ac f Z λa f=>Aa ?_
   refine Ap ?_
   obtain rfl:=sj hd
   exact⟨[(.bool true)],f.g Z,f.d,_,[],(gt bw bR),m,Z,Z⟩
theorem Wk.M {v0:Value}{x0:LI}(m:Mem W G w (H))(h0:R1 G v0 x0){y:Int}(hd:D.M x0=some y):
  Calls prog 82 #[v0] w (Res W G H (λ_ Ho v=>Ho=[]∧v=(iv y))):=by
 refine Au (args:=[v0]) (N:=20) [.tmp 2] func82 Z Z (lb Z) Z λa f=> ?_
 unfold D.M at hd
 refine Ae ?_
 refine Ac f Z λa f=>AD ?_
 refine Ac f Z λa f=>Aa (Ag (Ae ?_))
 refine Ac f Z λa f=>Aa ?_
 have⟨aa,ab,hd⟩:=bind_some hd
 refine AM (λa w=>∃ac:Int,ac=aa∧∃(ad:GH),GLe G ad∧Fr a 20 [(3,(iv ac))]∧Mem W ad w (H)) ?_ ?_
 ·refine Ak ?_
  refine AO (λae a w=>∃af:Int,∃ag:Int,(af,ag)=ae∧∃(ah:GH),GLe G ah∧Fr a 20 [(0,v0),(3,(iv af)),(4,(iv ag))]∧Mem W ah w (H)) ab ⟨_,_,Z,_,gr,f.k Z,m⟩ ?_
  clear ab f m
  rintro ae ai aj ak a w ⟨af,ag,rfl,ah,al,f,m⟩
  have h0:=rd1 al h0
  refine Ag (Ae ?_)
  refine Ab f Z λa f=>Ab f Z λa f=>AL underlying35 f Z Z h0 λa f=>Ah f Z Z AR λa f=>Aa ?_
  rcases Af aj with⟨am,aj⟩|⟨am,aj⟩
  ·refine Al f Z am ?_
   refine Am ?_
   refine Ag (Ak (Aj ?_))
   refine Ab f Z λa f=>Ab f Z λa f=>Ab f Z λa f=> ?_
   have⟨an,ao,aj⟩:=bind_some aj
   refine A4 T35 f Z Z Z h0 ao λap aq a ar au f=> ?_
   subst au
   refine Ax m Pl2 f Z Z ar λa f=>l_o f (C2 (f.e Z) ⟨_,underlying2⟩ underlying100) λa f=> ?_
   obtain⟨av,aj⟩:=Ci aj
   refine l_o f (r_shl (f.e Z) (f.e Z) av) λa f=>Ah f Z Z Db λa f=>Ac f Z λa f=>Aa (Aj ?_)
   refine Ab f Z λa f=>Ah f Z Z AB λa f=>Ac f Z λa f=>Aa ?_
   obtain rfl:=sj aj
   exact⟨_,Z,_,_,Z,_,al,f.k Z,m⟩
  ·refine Ai f Z am ?_
   refine AG Z ?_
   obtain rfl:=sj aj
   obtain rfl:=ak _ rfl
   exact⟨_,Z,_,al,f.k Z,m⟩
 ·rintro a w ⟨ac,rfl,ad,aw,f,m⟩
  refine Ae ?_
  refine Ab f Z λa f=>Ac f Z λa f=>Aa ?_
  refine Ap ?_
  obtain rfl:=sj hd
  exact⟨[(iv ac)],f.g Z,f.d,_,[],aw,m,Z,Z⟩
theorem Wk.A {aa:Value}{ab:LL}(m:Mem W G w (H))(ac:R2 G aa ab){y:(LI)}(hd:D.A ab=some y):
  Calls prog 52 #[(.agg #[aa])] w (Res W G H (λG' Ho v=>∃r0:Value,∃i0:Itm,Ho=[i0]∧r0=v∧Ow R0 2 G' i0 r0 y)):=by
 refine Au (args:=[(.agg #[aa])]) (N:=42) [.tmp 2] func52 Z Z (lb Z) Z λa f=> ?_
 unfold D.A at hd
 refine Ae ?_
 refine Bo (cs:=[aa]) m f Z Z Z λad w a m f=>Ac f Z λa f=>AD ?_
 refine A7 (R:=R0) (xs:=([]:LI)) (RI.one _) m T35 f Z Z Z (by decide) (All2.nil _) λae af w a m ag f=>Ac f Z λa f=>Aa (Ag (Ae ?_))
 refine Ac f Z λa f=>Aa ?_
 have⟨ah,ai,hd⟩:=bind_some hd
 refine AM (λa w=>∃aj:LI,aj=ah∧∃(ak:GH) (al:Value) (am:Itm),GLe G ak∧Fr a 42 [(3,al)]∧Mem W ak w (am::H)∧Ow R0 2 ak am al aj) ?_ ?_
 ·refine Ak ?_
  have m:=m.fr 1
  refine AO (λan a w=>∃ao:LI,∃ap:Int,(ao,ap)=an∧∃(aq:GH) (ar:Value) (au:Itm),GLe G aq∧Fr a 42 [(1,(pb ad)),(3,ar),(4,(iv ap))]∧Mem W aq w (ib ad 29 [aa]::au::H)∧Ow R0 2 aq au ar ao) ai ⟨_,_,Z,_,af,ae,gr,f.k Z,m,ag⟩ ?_
  clear ai f m
  rintro an av aw ax a w ⟨ao,ap,rfl,aq,ar,au,ay,f,m,az⟩
  have ac:=rd2 ay ac
  refine Ag (Ae ?_)
  refine Ab f Z λa f=>AW underlying29 Z sizeOf27 f Z λa f=>As 0 0 m Be f Z Z Z Z λa f=>AL underlying27 f Z Z ac λa f=>Ah f Z Z AR λa f=>Aa ?_
  rcases Af aw with⟨aA,aw⟩|⟨aA,aw⟩
  ·refine Al f Z aA ?_
   refine Am ?_
   refine Ag (Ak (Ae ?_))
   refine Ac f Z λa f=>Aa (Ag (Ae ?_))
   refine Ac f Z λa f=>Aa ?_
   have⟨aB,aC,aw⟩:=bind_some aw
   refine AM (λa w=>∃aD:Int,aD=aB∧∃(aE:GH),GLe aq aE∧Fr a 42 [(1,(pb ad)),(3,ar),(4,(iv ap)),(5,(iv aD))]∧Mem W aE w (ib ad 29 [aa]::au::H)) ?_ ?_
   ·refine Ak ?_
    refine AO (λaF a w=>∃aG:Int,∃aH:Int,(aG,aH)=aF∧∃(aI:GH),GLe aq aI∧Fr a 42 [(1,(pb ad)),(3,ar),(4,(iv ap)),(5,(iv aG)),(6,(iv aH))]∧Mem W aI w (ib ad 29 [aa]::au::H)) aC ⟨_,_,Z,_,gr,f.k Z,m⟩ ?_
    clear aC f m
    rintro aF aJ aK aL a w ⟨aG,aH,rfl,aI,aM,f,m⟩
    have ac:=rd2 aM ac
    refine Ag (Ae ?_)
    refine Ab f Z λa f=>AW underlying29 Z sizeOf27 f Z λa f=>As 0 0 m Be f Z Z Z Z λa f=>Ab f Z λa f=> ?_
    have⟨aN,aO,aK⟩:=bind_some aK
    refine A4 T27 f Z Z Z ac aO λaP aQ a aR aS f=>Ax m Ba f Z Z aR λa f=>AL underlying35 f Z Z aS λa f=>Ah f Z Z AR λa f=>Aa ?_
    rcases Af aK with⟨aT,aK⟩|⟨aT,aK⟩
    ·refine Al f Z aT ?_
     refine Am ?_
     refine Ag (Ak (Aj ?_))
     refine Ab f Z λa f=>AW underlying29 Z sizeOf27 f Z λa f=>As 0 0 m Be f Z Z Z Z λa f=>Ab f Z λa f=> ?_
     have⟨aU,aV,aK⟩:=bind_some aK
     refine A4 T27 f Z Z Z ac aV λaW aX a aY aZ f=>Ax m Ba f Z Z aY λa f=>Ab f Z λa f=> ?_
     have⟨a0,a1,aK⟩:=bind_some aK
     refine A4 T35 f Z Z Z aZ a1 λa2 a3 a a4 a5 f=> ?_
     subst a5
     refine Ax m Pl2 f Z Z a4 λa f=>l_o f (C2 (f.e Z) ⟨_,underlying2⟩ underlying100) λa f=> ?_
     obtain⟨a6,aK⟩:=Ci aK
     refine l_o f (r_shl (f.e Z) (f.e Z) a6) λa f=>Ah f Z Z Db λa f=>Ac f Z λa f=>Aa (Aj ?_)
     refine Ab f Z λa f=>Ah f Z Z AB λa f=>Ac f Z λa f=>Aa ?_
     obtain rfl:=sj aK
     exact⟨_,Z,_,_,Z,_,aM,f.k Z,m⟩
    ·refine Ai f Z aT ?_
     refine AG Z ?_
     obtain rfl:=sj aK
     obtain rfl:=aL _ rfl
     exact⟨_,Z,_,aM,f.k Z,m⟩
   ·rintro a w ⟨aD,rfl,aE,a7,f,m⟩
    have az:=od1 a7 az
    refine Aj ?_
    refine Ab f Z λa f=>Ab f Z λa f=>A7 (R:=R0) (xs:=([aD]:LI)) (RI.one _) m T35 f Z Z Z (by decide) (All2.cons Z (All2.nil _)) λa8 a9 w a m ba f=> ?_
    have⟨bb,bc,aw⟩:=bind_some aw
    refine Bh (RI.one _) 2 m az Z T35 Z (by decide) f Z Z Z (Ow.src (j:=0) ba m Z) bc λbd be w a m bf f=>Ac f Z λa f=>Aa (Aj ?_)
    refine Ab f Z λa f=>Ah f Z Z AB λa f=>Ac f Z λa f=>Aa ?_
    have m:=m.fr 2
    have m:=m.fr 2
    have m:=m.eraseAt 2
    obtain rfl:=sj aw
    exact⟨_,Z,_,_,Z,_,be,bd,(gt ay a7),f.k Z,m,bf⟩
  ·refine Ai f Z aA ?_
   refine AG Z ?_
   have m:=m.fr 1
   have m:=m.eraseAt 1
   obtain rfl:=sj aw
   obtain rfl:=ax _ rfl
   exact⟨_,Z,_,ar,au,ay,f.k Z,m,az⟩
 ·rintro a w ⟨aj,rfl,ak,al,am,bg,f,m,bh⟩
  refine Ae ?_
  refine Ab f Z λa f=>Ac f Z λa f=>Aa ?_
  refine Ap ?_
  obtain rfl:=sj hd
  exact⟨[al],f.g Z,f.d,_,[am],bg,m,_,_,Z,Z,bh⟩
theorem Wk.m0 {aa ab ac ad ae:Value}{af:LL}{ag ah:LI}{ai aj:LL}(m:Mem W G w (H))(ak:R2 G aa af)(al:R1 G ab ag)(am:R1 G ac ah)(an:R2 G ad ai)(ao:R2 G ae aj){y:Bool}(hd:D.m0 af ag ah ai aj=some y):
  Calls prog 33 #[(.agg #[aa]),(.agg #[ab,ac,ad,ae])] w (Res W G H (λ_ Ho v=>Ho=[]∧v=(.bool y))):=by
 refine Au (args:=[(.agg #[aa]),(.agg #[ab,ac,ad,ae])]) (N:=107) [.tmp 4] func33 Z Z (lb Z) Z λa f=> ?_
 unfold D.m0 at hd
 refine Ae ?_
 refine Bo (cs:=[aa]) m f Z Z Z λap w a m f=>Bo (cs:=[ab,ac,ad,ae]) m f Z Z Z λaq w a m f=>Ac f Z λa f=>AD ?_
 refine AW underlying29 Z sizeOf27 f Z λa f=>As 1 0 m Be f Z Z Z Z λa f=>AL underlying27 f Z Z ak λa f=> ?_
 have⟨ar,au,hd⟩:=bind_some hd
 refine Co (R:=R0) m T35 Z (by decide) Z f Z Z Z au λav aw w a m ax f=>Ac f Z λa f=>AD ?_
 refine AW underlying29 Z sizeOf27 f Z λa f=>As 2 0 m Be f Z Z Z Z λa f=>AL underlying27 f Z Z ak λa f=> ?_
 have⟨ay,az,hd⟩:=bind_some hd
 refine Co (R:=R0) m T35 Z (by decide) Z f Z Z Z az λaA aB w a m aC f=>Ac f Z λa f=>Aa (Ag (Ae ?_))
 refine Ac f Z λa f=>Aa ?_
 have⟨aD,aE,hd⟩:=bind_some hd
 refine AM (λa w=>∃aF:LI,∃aG:LI,(aF,aG)=aD∧∃(aH:GH) (aI:Itm) (aJ:Itm),GLe G aH∧Fr a 107 [(2,(pb ap)),(5,aw),(6,aB)]∧Mem W aH w (ib ap 29 [aa]::aI::aJ::H)∧Ow R0 2 aH aI aw aF∧Ow R0 2 aH aJ aB aG) ?_ ?_
 ·refine Ak ?_
  have m:=m.fr 1
  have m:=m.fr 2
  have m:=m.fr 3
  refine AO (λaK a w=>∃aL:LI,∃aM:LI,∃aN:Int,(aL,aM,aN)=aK∧∃(aO:GH) (aP:Itm) (aQ:Itm),GLe G aO∧Fr a 107 [(2,(pb ap)),(3,(pb aq)),(5,aw),(6,aB),(7,(iv aN))]∧Mem W aO w (ib ap 29 [aa]::ib aq 38 [ab,ac,ad,ae]::aP::aQ::H)∧Ow R0 2 aO aP aw aL∧Ow R0 2 aO aQ aB aM) aE ⟨_,_,_,Z,_,av,aA,gr,f.k Z,m,ax,aC⟩ ?_
  clear aE f m
  rintro aK aR aS aT a w ⟨aL,aM,aN,rfl,aO,aP,aQ,aU,f,m,aV,aW⟩
  have al:=rd1 aU al
  have am:=rd1 aU am
  have an:=rd2 aU an
  refine Ag (Ae ?_)
  refine Ab f Z λa f=>AW underlying38 Z sizeOf35 f Z λa f=>As 1 0 m Ba f Z Z Z Z λa f=>AL underlying35 f Z Z al λa f=>Ah f Z Z AR λa f=>Aa ?_
  rcases Af aS with⟨aX,aS⟩|⟨aX,aS⟩
  ·refine Al f Z aX ?_
   refine Am ?_
   refine Ag (Ak (Ag (Ae ?_)))
   refine AW underlying38 Z sizeOf35 f Z λa f=>As 1 0 m Ba f Z Z Z Z λa f=>Ab f Z λa f=> ?_
   have⟨aY,aZ,aS⟩:=bind_some aS
   refine A4 T35 f Z Z Z al aZ λa0 a1 a a2 a3 f=> ?_
   subst a3
   refine Ax m Pl2 f Z Z a2 λa f=>Ah f Z Z Bj λa f=>Aa ?_
   have⟨a4,a5,aS⟩:=bind_some aS
   refine AM (λa w=>∃a6:LI,a6=a4∧∃(a7:GH) (a8:Itm),GLe aO a7∧Fr a 107 [(2,(pb ap)),(3,(pb aq)),(5,aw),(6,aB),(7,(iv aN))]∧Mem W a7 w (ib ap 29 [aa]::ib aq 38 [ab,ac,ad,ae]::a8::aQ::H)∧Ow R0 2 a7 a8 aw a6) ?_ ?_
   ·rcases Af a5 with⟨a9,a5⟩|⟨a9,a5⟩
    ·refine Al f Z a9 ?_
     refine Aj ?_
     refine Ab f Z λa f=>AW underlying38 Z sizeOf35 f Z λa f=>As 1 1 m Ba f Z Z Z Z λa f=>Ab f Z λa f=> ?_
     have⟨ba,bb,a5⟩:=bind_some a5
     refine A4 T35 f Z Z Z am bb λbc bd a be bf f=> ?_
     subst bf
     refine Ax m Pl2 f Z Z be λa f=> ?_
     have⟨bg,bh,a5⟩:=bind_some a5
     refine Bi 2 m aV Z T35 f Z Z Z bh λbi a bj f=>Bk 2 m aV Z Pl2 f Z Z bj bh λbk a bl f=> ?_
     subst bl
     refine Ah f Z Z AB λa f=> ?_
     have⟨bm,bn,a5⟩:=bind_some a5
     refine Bi 2 m aV Z T35 f Z Z Z bn λbo a bp f=>BN 2 m aV Z sizeOf2 f Z Z bp bn Z Z Z λbq w m br=>Aa ?_
     obtain rfl:=sj a5
     exact⟨_,Z,_,bq,gr,f.k Z,m,br⟩
    ·refine Ai f Z a9 ?_
     refine Am ?_
     obtain rfl:=sj a5
     exact⟨_,Z,_,aP,gr,f.k Z,m,aV⟩
   ·rintro a w ⟨a6,rfl,a7,a8,bs,f,m,bt⟩
    have an:=rd2 bs an
    have aW:=od1 bs aW
    refine Ae ?_
    refine AW underlying38 Z sizeOf27 f Z λa f=>As 1 2 m Be f Z Z Z Z λa f=>Ab f Z λa f=> ?_
    have⟨bu,bv,aS⟩:=bind_some aS
    refine A4 T27 f Z Z Z an bv λbw bx a bz bA f=>Ax m Ba f Z Z bz λa f=> ?_
    have⟨bB,bC,aS⟩:=bind_some aS
    refine Bd f Z call82 (Wk.M m bA bC) λbD w bE m a f=> ?_
    have an:=rd2 bE an
    have bt:=od1 bE bt
    have aW:=od1 bE aW
    refine Ac f Z λa f=>AD ?_
    refine Ac f Z λa f=>Aa ?_
    have⟨bF,bG,aS⟩:=bind_some aS
    refine AM (λa w=>∃bH:LI,bH=bF∧∃(bI:GH) (bJ:Itm),GLe bD bI∧Fr a 107 [(2,(pb ap)),(3,(pb aq)),(5,aw),(6,aB),(7,(iv aN))]∧Mem W bI w (ib ap 29 [aa]::ib aq 38 [ab,ac,ad,ae]::a8::bJ::H)∧Ow R0 2 bI bJ aB bH) ?_ ?_
    ·refine Ak ?_
     refine AO (λbK a w=>∃bL:LI,∃bM:Int,(bL,bM)=bK∧∃(bN:GH) (bO:Itm),GLe bD bN∧Fr a 107 [(2,(pb ap)),(3,(pb aq)),(5,aw),(6,aB),(7,(iv aN)),(8,(iv bB)),(9,(iv bM))]∧Mem W bN w (ib ap 29 [aa]::ib aq 38 [ab,ac,ad,ae]::a8::bO::H)∧Ow R0 2 bN bO aB bL) bG ⟨_,_,Z,_,aQ,gr,f.k Z,m,aW⟩ ?_
     clear bG f m
     rintro bK bP bQ bR a w ⟨bL,bM,rfl,bN,bO,bS,f,m,bT⟩
     have an:=rd2 bS an
     refine Ag (Ae ?_)
     refine Ab f Z λa f=>AW underlying38 Z sizeOf27 f Z λa f=>As 1 2 m Be f Z Z Z Z λa f=>Ab f Z λa f=> ?_
     have⟨bU,bV,bQ⟩:=bind_some bQ
     refine A4 T27 f Z Z Z an bV λbW bX a bY bZ f=>Ax m Ba f Z Z bY λa f=>AL underlying35 f Z Z bZ λa f=>Ah f Z Z AR λa f=>Aa ?_
     rcases Af bQ with⟨b0,bQ⟩|⟨b0,bQ⟩
     ·refine Al f Z b0 ?_
      refine Am ?_
      refine Ag (Ak ?_)
      refine Bf 23 AU (by kernel_rfl) m ?_
      refine An 0 23 Z f Z λa f=>Bt 1 23 underlying38 Z sizeOf27 Z f Z λa f=>Br 2 23 1 Be Z Z Z f Z λa f=>An 3 23 Z f Z λa f=> ?_
      have⟨b1,b2,bQ⟩:=bind_some bQ
      refine A8 4 23 T27 an b2 Z f Z Z λb3 b4 a b5 b6 f=>A9 5 23 Ba b5 Z f Z λa f=>An 6 23 Z f Z λa f=> ?_
      have⟨b7,b8,bQ⟩:=bind_some bQ
      refine A8 7 23 T35 b6 b8 Z f Z Z λb9 ca a cb cc f=> ?_
      subst cc
      refine A9 8 23 Pl2 cb Z f Z λa f=>An 9 23 Z f Z λa f=>Bt 10 23 underlying38 Z sizeOf27 Z f Z λa f=>Br 11 23 1 Be Z Z Z f Z λa f=>An 12 23 Z f Z λa f=> ?_
      have⟨cd,ce,bQ⟩:=bind_some bQ
      refine A8 13 23 T27 an ce Z f Z Z λcf cg a ch ci f=>A9 14 23 Ba ch Z f Z λa f=>An 15 23 Z f Z λa f=> ?_
      have⟨cj,ck,bQ⟩:=bind_some bQ
      refine A8 16 23 T35 ci ck Z f Z Z λcl cm a cn co f=> ?_
      subst co
      refine A9 17 23 Pl2 cn Z f Z λa f=> ?_
      have⟨cp,cq,bQ⟩:=bind_some bQ
      refine Dp 18 23 3 m bT T35 cq Z f Z Z λcr a ct f=>q_ol 19 23 3 bT Pl2 ct cq Z f Z λcu a cv f=> ?_
      subst cv
      refine An 20 23 Z f Z λa f=>q_p 21 23 Z f (λ_=>Bn (f.e Z) (f.e Z) Db) λa f=> ?_
      have⟨cw,cx,bQ⟩:=bind_some bQ
      refine Dp 22 23 3 m bT T35 cx Z f Z Z λcy a cz f=>A2 λcA w cB m=> ?_
      have bT:=od1 cB bT
      refine BN 3 m bT Z sizeOf2 f Z Z cz cx Z Z Z λcC w m cD=>Aa (Aj ?_)
      refine Ab f Z λa f=>Ah f Z Z AB λa f=>Ac f Z λa f=>Aa ?_
      obtain rfl:=sj bQ
      exact⟨_,Z,_,_,Z,_,cC,(gt bS cB),f.k Z,m,cD⟩
     ·refine Ai f Z b0 ?_
      refine AG Z ?_
      obtain rfl:=sj bQ
      obtain rfl:=bR _ rfl
      exact⟨_,Z,_,bO,bS,f.k Z,m,bT⟩
    ·rintro a w ⟨bH,rfl,bI,bJ,cE,f,m,cF⟩
     have bt:=od1 cE bt
     refine Aj ?_
     refine Ab f Z λa f=>Ah f Z Z AB λa f=>Ac f Z λa f=>Aa ?_
     obtain rfl:=sj aS
     exact⟨_,Z,_,_,_,Z,_,a8,bJ,(gt aU (gt bs (gt bE cE))),f.k Z,m,bt,cF⟩
  ·refine Ai f Z aX ?_
   refine AG Z ?_
   have m:=m.fr 3
   have m:=m.fr 3
   have m:Mem W aO w (ib ap 29 [aa]::aP::aQ::ib aq 38 [ab,ac,ad,ae]::H):=m.fr 2
   have m:=m.eraseAt 3
   obtain rfl:=sj aS
   obtain rfl:=aT _ rfl
   exact⟨_,_,Z,_,aP,aQ,aU,f.k Z,m,aV,aW⟩
 ·rintro a w ⟨aF,aG,rfl,aH,aI,aJ,cG,f,m,cH,cI⟩
  have ak:=rd2 cG ak
  refine Ae ?_
  refine AC 0 0 (ds:=[aa]) m Bv f Z Z Z Z Z λa f=> ?_
  have⟨cJ,cK,hd⟩:=bind_some hd
  refine AX f Z call52 (Wk.A m ak cK) λcL cM cN w cO m cP a f=> ?_
  obtain⟨cQ,cR,rfl,rfl,cS⟩:=cP
  have cH:=od1 cO cH
  have cI:=od1 cO cI
  refine Ac f Z λa f=>Aa (Ag (Ae ?_))
  refine Ac f Z λa f=>Aa ?_
  have⟨cT,cU,hd⟩:=bind_some hd
  refine AM (λa w=>∃q_1205':Unit,cT= .inl q_1205'∧∃(cV:GH),GLe cM cV∧Fr a 107 []∧Mem W cV w (H)) ?_ ?_
  ·refine Ak ?_
   have m:=m.fr 3
   have m:=m.fr 3
   have m:=m.eraseAt 3
   refine AO (λcW a w=>∃cX:Int,cX=cW∧∃(cY:GH),GLe cM cY∧Fr a 107 [(5,aw),(6,aB),(10,cQ),(11,(iv cX))]∧Mem W cY w (aI::aJ::cR::H)) cU ⟨_,Z,_,gr,f.k Z,m⟩ ?_
   clear cU f m
   rintro cW cZ c0 c1 a w ⟨cX,rfl,cY,c2,f,m⟩
   have cH:=od1 c2 cH
   have cI:=od1 c2 cI
   have cS:=od1 c2 cS
   refine Ag (Ae ?_)
   refine Ab f Z λa f=>Ab f Z λa f=>B4 0 m cH Z underlying35 f Z Z λa f=>Ah f Z Z AR λa f=>Aa ?_
   rcases Af c0 with⟨c3,c0⟩|⟨c3,c0⟩
   ·refine Al f Z c3 ?_
    refine Am ?_
    refine Ag (Ak (Ag ?_))
    refine Bf 17 AU (by kernel_rfl) m ?_
    refine An 0 17 Z f Z λa f=>An 1 17 Z f Z λa f=> ?_
    have⟨c4,c5,c0⟩:=bind_some c0
    refine Dp 2 17 0 m cH T35 c5 Z f Z Z λc6 a c7 f=>q_ol 3 17 0 cH Pl2 c7 c5 Z f Z λc8 a c9 f=> ?_
    subst c9
    refine q_p 4 17 Z f (λ_=>Bn (f.e Z) (f.e Z) Cm) λa f=>An 5 17 Z f Z λa f=> ?_
    have⟨da,db,c0⟩:=bind_some c0
    refine Cw (fuel':=0) (listed':= #[true,true,true,true,true,true,true,true,true,true,true,true,true,true,true,true,true]) (λa=>Fr a 107 [(5,aw),(6,aB),(10,cQ),(11,(iv cX)),(87,(.bool (decide (cX<(aF.length:Int))))),(90,aw),(91,(iv cX)),(92,c6),(93,(iv c4)),(94,(.bool (c4 !=1))),(95,(.bool (c4 !=1))),(106,(.bool da))]) ?_ ?_
    ·intro a f
     refine A2 λdc w dd m=>Aa ?_
     rcases Af c0 with⟨de,c0⟩|⟨de,c0⟩
     ·refine Al f Z de ?_
      refine Ae ?_
      refine Ac f Z λa f=>Aa ?_
      refine Ap ?_
      have m:Mem W dc w H:=Mem.drop (H':=[aI,aJ,cR]) m
      obtain rfl:=sj c0
      obtain rfl:=c1 _ rfl
      obtain rfl:=sj hd
      exact⟨[(.bool false)],f.g Z,f.d,_,[],(gt cG (gt cO (gt c2 dd))),m,Z,Z⟩
     ·refine Ai f Z de ?_
      refine Am ?_
      refine Aj ?_
      refine Ab f Z λa f=>Ah f Z Z AB λa f=>Ac f Z λa f=>Aa ?_
      obtain rfl:=sj c0
      exact⟨_,Z,_,Z,_,(gt c2 dd),f.k Z,m⟩
    ·intro df
     rcases Af db with⟨dg,db⟩|⟨dg,db⟩
     ·refine Aw 6 17 Z f dg λa f=> ?_
      refine Aw 7 17 Z f dg λa f=>Aw 8 17 Z f dg λa f=>Aw 9 17 Z f dg λa f=>Aw 10 17 Z f dg λa f=>Aw 11 17 Z f dg λa f=>Aw 12 17 Z f dg λa f=>Aw 13 17 Z f dg λa f=>Aw 14 17 Z f dg λa f=>Aw 15 17 Z f dg λa f=>q_p 16 17 Z f (λ_=>AI (f.e Z) dg (f.e Z)) λa f=> ?_
      obtain rfl:=sj db
      exact df _ (f.k Z)
     ·refine An (hw:=wo f dg) 6 17 Z f Z λa f=> ?_
      refine An (hw:=wo f dg) 7 17 Z f Z λa f=> ?_
      have⟨dh,di,db⟩:=bind_some db
      refine Dp (hw:=wo f dg) 8 17 2 m cS T35 di Z f Z Z λdj a dk f=>q_ol (hw:=wo f dg) 9 17 2 cS Pl2 dk di Z f Z λdl a dm f=> ?_
      subst dm
      refine An (hw:=wo f dg) 10 17 Z f Z λa f=>An (hw:=wo f dg) 11 17 Z f Z λa f=> ?_
      have⟨dn,dp,db⟩:=bind_some db
      refine Dp (hw:=wo f dg) 12 17 1 m cI T35 dp Z f Z Z λdq a dr f=>q_ol (hw:=wo f dg) 13 17 1 cI Pl2 dr dp Z f Z λdt a du f=> ?_
      subst du
      refine q_p (hw:=wo f dg) 14 17 Z f (λ_=>Bn (f.e Z) (f.e Z) CN) λa f=>q_p (hw:=wo f dg) 15 17 Z f (λ_=>Bn (f.e Z) (f.e Z) Cm) λa f=>q_p 16 17 Z f (λ_=>AJ (f.e Z) dg (f.e Z)) λa f=> ?_
      obtain rfl:=sj db
      exact df _ (f.k Z)
   ·refine Ai f Z c3 ?_
    refine AG Z ?_
    have m:Mem W cY w H:=Mem.drop (H':=[aI,aJ,cR]) m
    obtain rfl:=sj c0
    obtain rfl:=c1 _ rfl
    exact⟨_,Z,_,c2,f.weak trivial,m⟩
  ·rintro a w ⟨_,rfl,cV,dv,f,m⟩
   refine Ae ?_
   refine Ac f Z λa f=>Aa ?_
   refine Ap ?_
   obtain rfl:=sj hd
   exact⟨[(.bool true)],f.g Z,f.d,_,[],(gt cG (gt cO dv)),m,Z,Z⟩
theorem Wk.k0 {aa ab ac ad ae:Value}{af:LL}{ag ah:LI}{ai aj:LL}(m:Mem W G w (H))(ak:R2 G aa af)(al:R1 G ab ag)(am:R1 G ac ah)(an:R2 G ad ai)(ao:R2 G ae aj){y:Bool}(hd:D.k0 af ag ah ai aj=some y):
  Calls prog 10 #[(.agg #[aa]),(.agg #[ab,ac,ad,ae])] w (Res W G H (λ_ Ho v=>Ho=[]∧v=(.bool y))):=by
 refine Au (args:=[(.agg #[aa]),(.agg #[ab,ac,ad,ae])]) (N:=69) [.tmp 4] func10 Z Z (lb Z) Z λa f=> ?_
 unfold D.k0 at hd
 refine Ae ?_
 refine Bo (cs:=[aa]) m f Z Z Z λap w a m f=>Bo (cs:=[ab,ac,ad,ae]) m f Z Z Z λaq w a m f=>Ac f Z λa f=>AD ?_
 refine AW underlying38 Z sizeOf35 f Z λa f=>As 0 0 m Ba f Z Z Z Z λa f=>AL underlying35 f Z Z al λa f=>Ac f Z λa f=>Aa (Ag (Ae ?_))
 refine AC 1 0 (ds:=[aa]) m Bv f Z Z Z Z Z λa f=> ?_
 have⟨ar,au,hd⟩:=bind_some hd
 refine Bd f Z call30 (Wk.t m ak au) λav w aw m a f=> ?_
 have ak:=rd2 aw ak
 have al:=rd1 aw al
 have am:=rd1 aw am
 have an:=rd2 aw an
 have ao:=rd2 aw ao
 refine l_o f (By (f.e Z)) λa f=>Ab f Z λa f=> ?_
 refine Bx 3 (λa w=>∃ax,GLe av ax∧Mem W ax w (ib aq 38 [ab,ac,ad,ae]::ib ap 29 [aa]::H)∧Fr a 69 [(0,(.agg #[aa])),(1,(.agg #[ab,ac,ad,ae])),(2,(pb ap)),(3,(pb aq)),(5,(iv (ag.length:Int))),(10,(.agg #[aa])),(11,(.bool ar)),(12,(.bool (!ar))),(13,(.bool (!ar))),(16,(.bool ((!ar)||(decide ((ag.length:Int)<1)))))]) ?_ ?_
 ·rcases Bool.eq_false_or_eq_true (!ar) with ay|ay
  ·refine Ar f ay λa f=> ?_
   refine Ar f ay λa f=>l_o f (AI (f.e Z) ay (f.e Z)) λa f=> ?_
   exact⟨_,gr,m,f.weak ⟨Z,Z,Z,Z,Z,Z,Z,Z,Z,by rw[ay];rfl,trivial⟩⟩
  ·refine Aq f ay ?_
   refine Ab f Z λa f=>Aq f ay ?_
   refine Ah f Z Z AR λa f=>l_o f (AJ (f.e Z) ay (f.e Z)) λa f=> ?_
   exact⟨_,gr,m,f.weak ⟨Z,Z,Z,Z,Z,Z,Z,Z,Z,by rw[ay];rfl,trivial⟩⟩
 ·rintro a w ⟨ax,az,m,f⟩
  have ak:=rd2 az ak
  have al:=rd1 az al
  have am:=rd1 az am
  have an:=rd2 az an
  have ao:=rd2 az ao
  refine Ab f Z λa f=> ?_
  refine Bx 3 (λa w=>∃aA,GLe ax aA∧Mem W aA w (ib aq 38 [ab,ac,ad,ae]::ib ap 29 [aa]::H)∧Fr a 69 [(0,(.agg #[aa])),(1,(.agg #[ab,ac,ad,ae])),(2,(pb ap)),(3,(pb aq)),(5,(iv (ag.length:Int))),(10,(.agg #[aa])),(11,(.bool ar)),(12,(.bool (!ar))),(13,(.bool (!ar))),(16,(.bool ((!ar)||(decide ((ag.length:Int)<1))))),(17,(.bool ((!ar)||(decide ((ag.length:Int)<1))))),(20,(.bool (((!ar)||(decide ((ag.length:Int)<1)))||(decide ((200:Int)<(ag.length:Int))))))]) ?_ ?_
  ·rcases Bool.eq_false_or_eq_true ((!ar)||(decide ((ag.length:Int)<1))) with aB|aB
   ·refine Ar f aB λa f=> ?_
    refine Ar f aB λa f=>l_o f (AI (f.e Z) aB (f.e Z)) λa f=> ?_
    exact⟨_,gr,m,f.weak ⟨Z,Z,Z,Z,Z,Z,Z,Z,Z,Z,Z,by rw[aB];rfl,trivial⟩⟩
   ·refine Aq f aB ?_
    refine Ab f Z λa f=>Aq f aB ?_
    refine Ah f Z Z Cz λa f=>l_o f (AJ (f.e Z) aB (f.e Z)) λa f=> ?_
    exact⟨_,gr,m,f.weak ⟨Z,Z,Z,Z,Z,Z,Z,Z,Z,Z,Z,by rw[aB];rfl,trivial⟩⟩
  ·rintro a w ⟨aA,aC,m,f⟩
   have ak:=rd2 aC ak
   have al:=rd1 aC al
   have am:=rd1 aC am
   have an:=rd2 aC an
   have ao:=rd2 aC ao
   refine Ab f Z λa f=> ?_
   refine Bx 6 (λa w=>∃aD,GLe aA aD∧Mem W aD w (ib aq 38 [ab,ac,ad,ae]::ib ap 29 [aa]::H)∧Fr a 69 [(0,(.agg #[aa])),(1,(.agg #[ab,ac,ad,ae])),(2,(pb ap)),(3,(pb aq)),(5,(iv (ag.length:Int))),(10,(.agg #[aa])),(11,(.bool ar)),(12,(.bool (!ar))),(13,(.bool (!ar))),(16,(.bool ((!ar)||(decide ((ag.length:Int)<1))))),(17,(.bool ((!ar)||(decide ((ag.length:Int)<1))))),(20,(.bool (((!ar)||(decide ((ag.length:Int)<1)))||(decide ((200:Int)<(ag.length:Int)))))),(21,(.bool (((!ar)||(decide ((ag.length:Int)<1)))||(decide ((200:Int)<(ag.length:Int)))))),(27,(.bool ((((!ar)||(decide ((ag.length:Int)<1)))||(decide ((200:Int)<(ag.length:Int))))||((ah.length:Int) !=(ag.length:Int)))))]) ?_ ?_
   ·rcases Bool.eq_false_or_eq_true (((!ar)||(decide ((ag.length:Int)<1)))||(decide ((200:Int)<(ag.length:Int)))) with aE|aE
    ·refine Ar f aE λa f=> ?_
     refine Ar f aE λa f=>Ar f aE λa f=>Ar f aE λa f=>Ar f aE λa f=>l_o f (AI (f.e Z) aE (f.e Z)) λa f=> ?_
     exact⟨_,gr,m,f.weak ⟨Z,Z,Z,Z,Z,Z,Z,Z,Z,Z,Z,Z,Z,by rw[aE];rfl,trivial⟩⟩
    ·refine Aq f aE ?_
     refine AW underlying38 Z sizeOf35 f Z λa f=>Aq f aE ?_
     refine As 0 1 m Ba f Z Z Z Z λa f=>Aq f aE ?_
     refine AL underlying35 f Z Z am λa f=>Aq f aE ?_
     refine Ab f Z λa f=>Aq f aE ?_
     refine Ah f Z Z Cm λa f=>l_o f (AJ (f.e Z) aE (f.e Z)) λa f=> ?_
     exact⟨_,gr,m,f.weak ⟨Z,Z,Z,Z,Z,Z,Z,Z,Z,Z,Z,Z,Z,by rw[aE];rfl,trivial⟩⟩
   ·rintro a w ⟨aD,aF,m,f⟩
    have ak:=rd2 aF ak
    have al:=rd1 aF al
    have am:=rd1 aF am
    have an:=rd2 aF an
    have ao:=rd2 aF ao
    refine Ab f Z λa f=> ?_
    refine Bx 6 (λa w=>∃aG,GLe aD aG∧Mem W aG w (ib aq 38 [ab,ac,ad,ae]::ib ap 29 [aa]::H)∧Fr a 69 [(0,(.agg #[aa])),(1,(.agg #[ab,ac,ad,ae])),(2,(pb ap)),(3,(pb aq)),(5,(iv (ag.length:Int))),(10,(.agg #[aa])),(11,(.bool ar)),(12,(.bool (!ar))),(13,(.bool (!ar))),(16,(.bool ((!ar)||(decide ((ag.length:Int)<1))))),(17,(.bool ((!ar)||(decide ((ag.length:Int)<1))))),(20,(.bool (((!ar)||(decide ((ag.length:Int)<1)))||(decide ((200:Int)<(ag.length:Int)))))),(21,(.bool (((!ar)||(decide ((ag.length:Int)<1)))||(decide ((200:Int)<(ag.length:Int)))))),(27,(.bool ((((!ar)||(decide ((ag.length:Int)<1)))||(decide ((200:Int)<(ag.length:Int))))||((ah.length:Int) !=(ag.length:Int))))),(28,(.bool ((((!ar)||(decide ((ag.length:Int)<1)))||(decide ((200:Int)<(ag.length:Int))))||((ah.length:Int) !=(ag.length:Int))))),(34,(.bool (((((!ar)||(decide ((ag.length:Int)<1)))||(decide ((200:Int)<(ag.length:Int))))||((ah.length:Int) !=(ag.length:Int)))||((ai.length:Int) !=(ag.length:Int)))))]) ?_ ?_
    ·rcases Bool.eq_false_or_eq_true ((((!ar)||(decide ((ag.length:Int)<1)))||(decide ((200:Int)<(ag.length:Int))))||((ah.length:Int) !=(ag.length:Int))) with aH|aH
     ·refine Ar f aH λa f=> ?_
      refine Ar f aH λa f=>Ar f aH λa f=>Ar f aH λa f=>Ar f aH λa f=>l_o f (AI (f.e Z) aH (f.e Z)) λa f=> ?_
      exact⟨_,gr,m,f.weak ⟨Z,Z,Z,Z,Z,Z,Z,Z,Z,Z,Z,Z,Z,Z,Z,by rw[aH];rfl,trivial⟩⟩
     ·refine Aq f aH ?_
      refine AW underlying38 Z sizeOf27 f Z λa f=>Aq f aH ?_
      refine As 0 2 m Be f Z Z Z Z λa f=>Aq f aH ?_
      refine AL underlying27 f Z Z an λa f=>Aq f aH ?_
      refine Ab f Z λa f=>Aq f aH ?_
      refine Ah f Z Z Cm λa f=>l_o f (AJ (f.e Z) aH (f.e Z)) λa f=> ?_
      exact⟨_,gr,m,f.weak ⟨Z,Z,Z,Z,Z,Z,Z,Z,Z,Z,Z,Z,Z,Z,Z,by rw[aH];rfl,trivial⟩⟩
    ·rintro a w ⟨aG,aI,m,f⟩
     have ak:=rd2 aI ak
     have al:=rd1 aI al
     have am:=rd1 aI am
     have an:=rd2 aI an
     have ao:=rd2 aI ao
     refine Ab f Z λa f=> ?_
     refine Bx 6 (λa w=>∃aJ,GLe aG aJ∧Mem W aJ w (ib aq 38 [ab,ac,ad,ae]::ib ap 29 [aa]::H)∧Fr a 69 [(0,(.agg #[aa])),(1,(.agg #[ab,ac,ad,ae])),(2,(pb ap)),(3,(pb aq)),(5,(iv (ag.length:Int))),(10,(.agg #[aa])),(11,(.bool ar)),(12,(.bool (!ar))),(13,(.bool (!ar))),(16,(.bool ((!ar)||(decide ((ag.length:Int)<1))))),(17,(.bool ((!ar)||(decide ((ag.length:Int)<1))))),(20,(.bool (((!ar)||(decide ((ag.length:Int)<1)))||(decide ((200:Int)<(ag.length:Int)))))),(21,(.bool (((!ar)||(decide ((ag.length:Int)<1)))||(decide ((200:Int)<(ag.length:Int)))))),(27,(.bool ((((!ar)||(decide ((ag.length:Int)<1)))||(decide ((200:Int)<(ag.length:Int))))||((ah.length:Int) !=(ag.length:Int))))),(28,(.bool ((((!ar)||(decide ((ag.length:Int)<1)))||(decide ((200:Int)<(ag.length:Int))))||((ah.length:Int) !=(ag.length:Int))))),(34,(.bool (((((!ar)||(decide ((ag.length:Int)<1)))||(decide ((200:Int)<(ag.length:Int))))||((ah.length:Int) !=(ag.length:Int)))||((ai.length:Int) !=(ag.length:Int))))),(35,(.bool (((((!ar)||(decide ((ag.length:Int)<1)))||(decide ((200:Int)<(ag.length:Int))))||((ah.length:Int) !=(ag.length:Int)))||((ai.length:Int) !=(ag.length:Int))))),(41,(.bool ((((((!ar)||(decide ((ag.length:Int)<1)))||(decide ((200:Int)<(ag.length:Int))))||((ah.length:Int) !=(ag.length:Int)))||((ai.length:Int) !=(ag.length:Int)))||((aj.length:Int) !=(ag.length:Int)))))]) ?_ ?_
     ·rcases Bool.eq_false_or_eq_true (((((!ar)||(decide ((ag.length:Int)<1)))||(decide ((200:Int)<(ag.length:Int))))||((ah.length:Int) !=(ag.length:Int)))||((ai.length:Int) !=(ag.length:Int))) with aK|aK
      ·refine Ar f aK λa f=> ?_
       refine Ar f aK λa f=>Ar f aK λa f=>Ar f aK λa f=>Ar f aK λa f=>l_o f (AI (f.e Z) aK (f.e Z)) λa f=> ?_
       exact⟨_,gr,m,f.weak ⟨Z,Z,Z,Z,Z,Z,Z,Z,Z,Z,Z,Z,Z,Z,Z,Z,Z,by rw[aK];rfl,trivial⟩⟩
      ·refine Aq f aK ?_
       refine AW underlying38 Z sizeOf27 f Z λa f=>Aq f aK ?_
       refine As 0 3 m Be f Z Z Z Z λa f=>Aq f aK ?_
       refine AL underlying27 f Z Z ao λa f=>Aq f aK ?_
       refine Ab f Z λa f=>Aq f aK ?_
       refine Ah f Z Z Cm λa f=>l_o f (AJ (f.e Z) aK (f.e Z)) λa f=> ?_
       exact⟨_,gr,m,f.weak ⟨Z,Z,Z,Z,Z,Z,Z,Z,Z,Z,Z,Z,Z,Z,Z,Z,Z,by rw[aK];rfl,trivial⟩⟩
     ·rintro a w ⟨aJ,aL,m,f⟩
      have ak:=rd2 aL ak
      have al:=rd1 aL al
      have am:=rd1 aL am
      have an:=rd2 aL an
      have ao:=rd2 aL ao
      refine Aa ?_
      rcases Af hd with⟨aM,hd⟩|⟨aM,hd⟩
      ·refine Al f Z aM ?_
       refine Ae ?_
       refine Ac f Z λa f=>Aa ?_
       refine Ap ?_
       have m:Mem W aJ w H:=Mem.drop (H':=[ib aq 38 [ab,ac,ad,ae],ib ap 29 [aa]]) m
       obtain rfl:=sj hd
       exact⟨[(.bool false)],f.g Z,f.d,_,[],(gt aw (gt az (gt aC (gt aF (gt aI aL))))),m,Z,Z⟩
      ·refine Ai f Z aM ?_
       refine Am ?_
       refine Ag (Ae ?_)
       refine Ac f Z λa f=>Aa ?_
       have⟨aN,aO,hd⟩:=bind_some hd
       refine AM (λa w=>∃q_48':Unit,aN= .inl q_48'∧∃(aP:GH),GLe aJ aP∧Fr a 69 [(2,(pb ap)),(3,(pb aq)),(5,(iv (ag.length:Int)))]∧Mem W aP w (ib ap 29 [aa]::ib aq 38 [ab,ac,ad,ae]::H)) ?_ ?_
       ·refine Ak ?_
        have m:=m.fr 1
        refine AO (λaQ a w=>∃aR:Int,aR=aQ∧∃(aS:GH),GLe aJ aS∧Fr a 69 [(2,(pb ap)),(3,(pb aq)),(5,(iv (ag.length:Int))),(6,(iv aR))]∧Mem W aS w (ib ap 29 [aa]::ib aq 38 [ab,ac,ad,ae]::H)) aO ⟨_,Z,_,gr,f.k Z,m⟩ ?_
        clear aO f m
        rintro aQ aT aU aV a w ⟨aR,rfl,aS,aW,f,m⟩
        have ak:=rd2 aW ak
        have al:=rd1 aW al
        have am:=rd1 aW am
        have an:=rd2 aW an
        have ao:=rd2 aW ao
        refine Ag (Ae ?_)
        refine Ab f Z λa f=>Ab f Z λa f=>Ah f Z Z AR λa f=>Aa ?_
        rcases Af aU with⟨aX,aU⟩|⟨aX,aU⟩
        ·refine Al f Z aX ?_
         refine Am ?_
         refine Ag (Ak (Ae ?_))
         refine AC 0 0 (ds:=[aa]) m Bv f Z Z Z Z Z λa f=>AC 1 0 (ds:=[ab,ac,ad,ae]) m DJ f Z Z Z Z Z λa f=>Ab f Z λa f=> ?_
         have⟨aY,aZ,aU⟩:=bind_some aU
         refine Bd f Z call31 (Wk.c0 m ak al am an ao aZ) λa0 w a1 m a f=>l_o f (By (f.e Z)) λa f=>Aa ?_
         rcases Af aU with⟨a2,aU⟩|⟨a2,aU⟩
         ·refine Al f Z a2 ?_
          refine Ae ?_
          refine Ac f Z λa f=>Aa ?_
          refine Ap ?_
          have m:Mem W a0 w H:=Mem.drop (H':=[ib ap 29 [aa],ib aq 38 [ab,ac,ad,ae]]) m
          obtain rfl:=sj aU
          obtain rfl:=aV _ rfl
          obtain rfl:=sj hd
          exact⟨[(.bool false)],f.g Z,f.d,_,[],(gt aw (gt az (gt aC (gt aF (gt aI (gt aL (gt aW a1))))))),m,Z,Z⟩
         ·refine Ai f Z a2 ?_
          refine Am ?_
          refine Aj ?_
          refine Ab f Z λa f=>Ah f Z Z AB λa f=>Ac f Z λa f=>Aa ?_
          obtain rfl:=sj aU
          exact⟨_,Z,_,Z,_,(gt aW a1),f.k Z,m⟩
        ·refine Ai f Z aX ?_
         refine AG Z ?_
         obtain rfl:=sj aU
         obtain rfl:=aV _ rfl
         exact⟨_,Z,_,aW,f.k Z,m⟩
       ·rintro a w ⟨_,rfl,aP,a3,f,m⟩
        have ak:=rd2 a3 ak
        have al:=rd1 a3 al
        have am:=rd1 a3 am
        have an:=rd2 a3 an
        have ao:=rd2 a3 ao
        refine Ae ?_
        refine AW underlying38 Z sizeOf27 f Z λa f=>As 1 2 m Be f Z Z Z Z λa f=>Ab f Z λa f=>Ah f Z Z Ck λa f=> ?_
        have⟨a4,a5,hd⟩:=bind_some hd
        refine A4 T27 f Z Z Z an a5 λa6 a7 a a8 a9 f=>Ax m Ba f Z Z a8 λa f=>AL underlying35 f Z Z a9 λa f=>Ah f Z Z Bj λa f=>Ab f Z λa f=> ?_
        have⟨ba,bb,hd⟩:=bind_some hd
        refine Bx 3 (λa w=>∃bc,GLe aP bc∧Mem W bc w (ib ap 29 [aa]::ib aq 38 [ab,ac,ad,ae]::H)∧Fr a 69 [(2,(pb ap)),(3,(pb aq)),(5,(iv (ag.length:Int))),(52,(.pointer (some ⟨aq,2,none⟩))),(53,ad),(54,(iv (ag.length:Int))),(55,(iv (i64.wrap ((ag.length:Int)-1)))),(56,a6),(57,a7),(58,(iv (a4.length:Int))),(59,(.bool ((a4.length:Int)==0))),(60,(.bool ((a4.length:Int)==0))),(63,(.bool ba))]) ?_ ?_
        ·rcases Af bb with⟨bd,bb⟩|⟨bd,bb⟩
         ·refine Aq f bd ?_
          refine AC 1 0 (ds:=[ab,ac,ad,ae]) m DJ f Z Z Z Z Z λa f=>Aq f bd ?_
          have⟨be,bf,bb⟩:=bind_some bb
          refine Bd f Z call32 (Wk.x0 m al am an ao bf) λbg w bh m a f=>l_o f (AI (f.e Z) bd (f.e Z)) λa f=> ?_
          obtain rfl:=sj bb
          exact⟨_,bh,m,f.k Z⟩
         ·refine Ar f bd λa f=> ?_
          refine Ar f bd λa f=>l_o f (AJ (f.e Z) bd (f.e Z)) λa f=> ?_
          obtain rfl:=sj bb
          exact⟨_,gr,m,f.k Z⟩
        ·rintro a w ⟨bc,bi,m,f⟩
         have an:=rd2 bi an
         have ak:=rd2 bi ak
         have al:=rd1 bi al
         have am:=rd1 bi am
         have ao:=rd2 bi ao
         refine Ab f Z λa f=> ?_
         have⟨bj,bk,hd⟩:=bind_some hd
         refine Bx 4 (λa w=>∃bl,GLe bc bl∧Mem W bl w (ib ap 29 [aa]::ib aq 38 [ab,ac,ad,ae]::H)∧Fr a 69 [(2,(pb ap)),(3,(pb aq)),(5,(iv (ag.length:Int))),(52,(.pointer (some ⟨aq,2,none⟩))),(53,ad),(54,(iv (ag.length:Int))),(55,(iv (i64.wrap ((ag.length:Int)-1)))),(56,a6),(57,a7),(58,(iv (a4.length:Int))),(59,(.bool ((a4.length:Int)==0))),(60,(.bool ((a4.length:Int)==0))),(63,(.bool ba)),(64,(.bool ba)),(68,(.bool bj))]) ?_ ?_
         ·rcases Af bk with⟨bm,bk⟩|⟨bm,bk⟩
          ·refine Aq f bm ?_
           refine AC 0 0 (ds:=[aa]) m Bv f Z Z Z Z Z λa f=>Aq f bm ?_
           refine AC 1 0 (ds:=[ab,ac,ad,ae]) m DJ f Z Z Z Z Z λa f=>Aq f bm ?_
           have⟨bn,bo,bk⟩:=bind_some bk
           refine Bd f Z call33 (Wk.m0 m ak al am an ao bo) λbp w bq m a f=>l_o f (AI (f.e Z) bm (f.e Z)) λa f=> ?_
           obtain rfl:=sj bk
           exact⟨_,bq,m,f.k Z⟩
          ·refine Ar f bm λa f=> ?_
           refine Ar f bm λa f=>Ar f bm λa f=>l_o f (AJ (f.e Z) bm (f.e Z)) λa f=> ?_
           obtain rfl:=sj bk
           exact⟨_,gr,m,f.k Z⟩
         ·rintro a w ⟨bl,br,m,f⟩
          refine Ac f Z λa f=>Aa ?_
          refine Ap ?_
          have m:Mem W bl w H:=Mem.drop (H':=[ib ap 29 [aa],ib aq 38 [ab,ac,ad,ae]]) m
          obtain rfl:=sj hd
          exact⟨[(.bool bj)],f.g Z,f.d,_,[],(gt aw (gt az (gt aC (gt aF (gt aI (gt aL (gt a3 (gt bi br)))))))),m,Z,Z⟩
theorem Wk.D0 {b1:Nat}{x0 aa:Int}(m:Mem W G w (ib b1 3 [(iv aa)]::H)){y:Bool}(hd:D.D0 x0 aa=some y):
  Calls prog 101 #[(iv x0),(pb b1)] w (Res W G H (λ_ Ho v=>Ho=[ib b1 3 [(iv aa)]]∧v=(.bool y))):=by
 refine Au (args:=[(iv x0),(pb b1)]) (N:=9) [.tmp 3] func101 Z Z (lb Z) Z λa f=> ?_
 unfold D.D0 at hd
 refine Ae ?_
 refine Ac f Z λa f=>AD ?_
 refine Ab f Z λa f=>As 0 0 m Pl3 f Z Z Z Z λa f=>Ah f Z Z Ck λa f=> ?_
 have⟨ab,ac,hd⟩:=bind_some hd
 refine Bd f Z call95 (Wk.B m ac) λad w ae m a f=>l_o f (By (f.e Z)) λa f=>Ac f Z λa f=>Aa ?_
 refine Ap ?_
 obtain rfl:=sj hd
 exact⟨[(.bool (!ab))],f.g Z,f.d,_,[ib b1 3 [(iv aa)]],ae,m,Z,Z⟩
theorem Wk.T0 {v0:Value}{b1c0:Nat}{x0:LI}{aa:Int}(m:Mem W G w (ib b1c0 3 [(iv aa)]::H))(h0:R1 G v0 x0){y:Int}(hd:D.T0 x0 aa=some y):
  Calls prog 105 #[v0,(.func (.func 101) #[] #[(pb b1c0)])] w (Res W G H (λ_ Ho v=>Ho=[ib b1c0 3 [(iv aa)]]∧v=(iv y))):=by
 refine Au (args:=[v0,(.func (.func 101) #[] #[(pb b1c0)])]) (N:=19) [.tmp 4] func105 Z Z (lb Z) Z λa f=> ?_
 unfold D.T0 at hd
 refine Ae ?_
 refine Ac f Z λa f=>Aa (Ag (Ae ?_))
 refine Ab f Z λa f=>AL underlying35 f Z Z h0 λa f=>Ab f Z λa f=>Aa ?_
 have⟨ab,ac,hd⟩:=bind_some hd
 refine AM (λa w=>∃q_33':Unit,ab= .inl q_33'∧∃(ad:GH),GLe G ad∧Fr a 19 []∧Mem W ad w (ib b1c0 3 [(iv aa)]::H)) ?_ ?_
 ·refine Ak ?_
  refine AO (λae a w=>∃af:Int,af=ae∧∃(ag:GH),GLe G ag∧Fr a 19 [(0,v0),(1,(.func (.func 101) #[] #[(pb b1c0)])),(7,(iv (x0.length:Int))),(8,(iv af))]∧Mem W ag w (ib b1c0 3 [(iv aa)]::H)) ac ⟨_,Z,_,gr,f.k Z,m⟩ ?_
  clear ac f m
  rintro ae ah ai aj a w ⟨af,rfl,ag,ak,f,m⟩
  have h0:=rd1 ak h0
  refine Ae ?_
  refine Ah f Z Z AR λa f=>Aa (Ag ?_)
  rcases Af ai with⟨al,ai⟩|⟨al,ai⟩
  ·refine Al f Z al ?_
   refine Am ?_
   refine Ag (Ak (Ae ?_))
   refine Ab f Z λa f=>Ac f Z λa f=>AD ?_
   refine Ab f Z λa f=>Ab f Z λa f=>Ab f Z λa f=> ?_
   have⟨am,an,ai⟩:=bind_some ai
   refine A4 T35 f Z Z Z h0 an λao ap a aq ar f=> ?_
   subst ar
   refine Ax m Pl2 f Z Z aq λa f=> ?_
   have⟨au,av,ai⟩:=bind_some ai
   refine CL f Z Z Z call101 (Wk.D0 m av) λaw ax ay w az m aA a f=> ?_
   obtain⟨rfl,rfl⟩:=aA
   refine Aa ?_
   rcases Af ai with⟨aB,ai⟩|⟨aB,ai⟩
   ·refine Al f Z aB ?_
    refine Ae ?_
    refine Ab f Z λa f=>Ac f Z λa f=>Aa ?_
    refine Ap ?_
    obtain rfl:=sj ai
    obtain rfl:=aj _ rfl
    obtain rfl:=sj hd
    exact⟨[(iv af)],f.g Z,f.d,_,[ib b1c0 3 [(iv aa)]],(gt ak az),m,Z,Z⟩
   ·refine Ai f Z aB ?_
    refine Am ?_
    refine Aj ?_
    refine Ah f Z Z AB λa f=>Ab f Z λa f=>Aa ?_
    obtain rfl:=sj ai
    exact⟨_,Z,_,Z,_,(gt ak az),f.k Z,m⟩
  ·refine Ai f Z al ?_
   refine AG Z ?_
   obtain rfl:=sj ai
   obtain rfl:=aj _ rfl
   exact⟨_,Z,_,ak,f.weak trivial,m⟩
 ·rintro a w ⟨_,rfl,ad,aC,f,m⟩
  refine Ae ?_
  refine Ac f Z λa f=>Aa ?_
  refine Ap ?_
  obtain rfl:=sj hd
  exact⟨[(iv (-1))],f.g Z,f.d,_,[ib b1c0 3 [(iv aa)]],aC,m,Z,Z⟩
theorem Wk.O0 {v0:Value}{b1c0:Nat}{x0:LI}{aa:Int}(m:Mem W G w (ib b1c0 3 [(iv aa)]::H))(h0:R1 G v0 x0){y:Bool}(hd:D.O0 x0 aa=some y):
  Calls prog 100 #[v0,(.func (.func 101) #[] #[(pb b1c0)])] w (Res W G H (λ_ Ho v=>Ho=[ib b1c0 3 [(iv aa)]]∧v=(.bool y))):=by
 refine Au (args:=[v0,(.func (.func 101) #[] #[(pb b1c0)])]) (N:=9) [.tmp 4] func100 Z Z (lb Z) Z λa f=> ?_
 unfold D.O0 at hd
 refine Ae ?_
 refine Ac f Z λa f=>AD ?_
 refine Ab f Z λa f=>Ab f Z λa f=> ?_
 have⟨ab,ac,hd⟩:=bind_some hd
 refine AX f Z call105 (Wk.T0 m h0 ac) λad ae af w ag m ah a f=> ?_
 obtain⟨rfl,rfl⟩:=ah
 refine Ah f Z Z Es λa f=>Ac f Z λa f=>Aa ?_
 refine Ap ?_
 obtain rfl:=sj hd
 exact⟨[(.bool (decide ((0:Int)≤ab)))],f.g Z,f.d,_,[ib b1c0 3 [(iv aa)]],ag,m,Z,Z⟩
set_option maxHeartbeats 1000000 in
theorem Wk.m {aa ab ac ad v2:Value}{ae af:LI}{ag ah:LL}{x1:Int}{x2:LI}{x3:Int}(m:Mem W G w (H))(ai:R1 G aa ae)(aj:R1 G ab af)(ak:R2 G ac ag)(al:R2 G ad ah)(h2:RSl (RI .u32) G v2 x2){y:Bool}(hd:D.m ae af ag ah x1 x2 x3=some y):
  Calls prog 83 #[(.agg #[aa,ab,ac,ad]),(iv x1),v2,(iv x3)] w (Res W G H (λ_ Ho v=>Ho=[]∧v=(.bool y))):=by
 refine Au (args:=[(.agg #[aa,ab,ac,ad]),(iv x1),v2,(iv x3)]) (N:=155) [.tmp 8] func83 Z Z (lb Z) Z λa f=> ?_
 unfold D.m at hd
 refine Ae ?_
 refine Bo (cs:=[aa,ab,ac,ad]) m f Z Z Z λam w a m f=>Bo (cs:=[(iv x1)]) m f Z Z Z λan w a m f=>Ac f Z λa f=>Aa (Ag ?_)
 refine Bf 12 AU (by kernel_rfl) m ?_
 refine Bt 0 12 underlying38 Z sizeOf35 Z f Z λa f=>Br 1 12 1 Ba Z Z Z f Z λa f=>Br 2 12 0 Pl3 Z Z Z f Z λa f=> ?_
 have⟨ao,ap,hd⟩:=bind_some hd
 refine A8 3 12 T35 aj ap Z f Z Z λaq ar a au av f=> ?_
 subst av
 refine A9 4 12 Pl2 au Z f Z λa f=>Bt 5 12 underlying38 Z sizeOf27 Z f Z λa f=>Br 6 12 1 Be Z Z Z f Z λa f=>Br 7 12 0 Pl3 Z Z Z f Z λa f=> ?_
 have⟨aw,ax,hd⟩:=bind_some hd
 refine A8 8 12 T27 al ax Z f Z Z λay az a aA aB f=>A9 9 12 Ba aA Z f Z λa f=>q_p 10 12 Z f (λ_=>Bs (f.e Z)) λa f=>q_p 11 12 Z f (λ_=>Bs (f.e Z)) λa f=>A2 λaC w aD m=> ?_
 have ai:=rd1 aD ai
 have h2:=rd1 aD h2
 have aB:=rd1 aD aB
 refine Aa (Ag (Ae ?_))
 refine Ab f Z λa f=>Ek f Z Z Z λa f=> ?_
 have⟨aE,aF,hd⟩:=bind_some hd
 refine AX f Z call100 (Wk.O0 m aB aF) λaG aH aI w aJ m aK a f=> ?_
 obtain⟨rfl,rfl⟩:=aK
 have ai:=rd1 aJ ai
 have h2:=rd1 aJ h2
 have aB:=rd1 aJ aB
 refine Aa ?_
 rcases Af hd with⟨aL,hd⟩|⟨aL,hd⟩
 ·refine Al f Z aL ?_
  refine Ae ?_
  refine Ac f Z λa f=>Aa ?_
  refine Ap ?_
  have m:Mem W aH w H:=Mem.drop (H':=[ib an 3 [(iv x1)],ib am 38 [aa,ab,ac,ad]]) m
  obtain rfl:=sj hd
  exact⟨[(.bool false)],f.g Z,f.d,_,[],(gt aD aJ),m,Z,Z⟩
 ·refine Ai f Z aL ?_
  refine Am ?_
  refine Ag (Ae ?_)
  refine AW underlying38 Z sizeOf35 f Z λa f=>As 1 0 m Ba f Z Z Z Z λa f=>As 0 0 m Pl3 f Z Z Z Z λa f=> ?_
  have⟨aM,aN,hd⟩:=bind_some hd
  refine A4 T35 f Z Z Z ai aN λaO aP a aQ aR f=> ?_
  subst aR
  refine Ax m Pl2 f Z Z aQ λa f=>Aa (Ak (Ae ?_))
  refine Ah f Z Z Bj λa f=>Ac f Z λa f=>Aa ?_
  rcases Af hd with⟨aS,hd⟩|⟨aS,hd⟩
  ·refine Al f Z aS ?_
   refine Ae ?_
   refine Ab f Z λa f=>Ah f Z Z Bj λa f=>Ab f Z λa f=> ?_
   have⟨aT,aU,hd⟩:=bind_some hd
   refine Bx 6 (λa w=>∃aV,GLe aH aV∧Mem W aV w (ib an 3 [(iv x1)]::ib am 38 [aa,ab,ac,ad]::H)∧Fr a 155 [(0,(.agg #[aa,ab,ac,ad])),(1,(iv x1)),(2,v2),(3,(iv x3)),(4,(pb am)),(5,(pb an)),(9,(iv ao)),(10,az),(28,(iv aM)),(29,(.bool (aM==1))),(31,(iv ao)),(32,(.bool (ao==(-1)))),(33,(.bool (ao==(-1)))),(39,(.bool aT))]) ?_ ?_
   ·rcases Af aU with⟨aW,aU⟩|⟨aW,aU⟩
    ·refine Aq f aW ?_
     refine Ab f Z λa f=>Aq f aW ?_
     refine As 0 0 m Pl3 f Z Z Z Z λa f=>Aq f aW ?_
     have⟨aX,aY,aU⟩:=bind_some aU
     refine A4 T60 f Z Z Z h2 aY λaZ a0 a a1 a2 f=> ?_
     subst a2
     refine Aq f aW ?_
     refine Ax m BM f Z Z a1 λa f=>Aq f aW ?_
     refine Ah f Z Z Bj λa f=>l_o f (AI (f.e Z) aW (f.e Z)) λa f=> ?_
     obtain rfl:=sj aU
     exact⟨_,gr,m,f.k Z⟩
    ·refine Ar f aW λa f=> ?_
     refine Ar f aW λa f=>Ar f aW λa f=>Ar f aW λa f=>Ar f aW λa f=>l_o f (AJ (f.e Z) aW (f.e Z)) λa f=> ?_
     obtain rfl:=sj aU
     exact⟨_,gr,m,f.k Z⟩
   ·rintro a w ⟨aV,a3,m,f⟩
    have aB:=rd1 a3 aB
    refine Ab f Z λa f=> ?_
    refine Bx 4 (λa w=>∃a4,GLe aV a4∧Mem W a4 w (ib an 3 [(iv x1)]::ib am 38 [aa,ab,ac,ad]::H)∧Fr a 155 [(0,(.agg #[aa,ab,ac,ad])),(1,(iv x1)),(2,v2),(3,(iv x3)),(4,(pb am)),(5,(pb an)),(9,(iv ao)),(10,az),(28,(iv aM)),(29,(.bool (aM==1))),(31,(iv ao)),(32,(.bool (ao==(-1)))),(33,(.bool (ao==(-1)))),(39,(.bool aT)),(40,(.bool aT)),(44,(.bool (aT&&((aw.length:Int)==0))))]) ?_ ?_
    ·rcases Bool.eq_false_or_eq_true aT with a5|a5
     ·refine Aq f a5 ?_
      refine Ab f Z λa f=>Aq f a5 ?_
      refine AL underlying35 f Z Z aB λa f=>Aq f a5 ?_
      refine Ah f Z Z Bj λa f=>l_o f (AI (f.e Z) a5 (f.e Z)) λa f=> ?_
      exact⟨_,gr,m,f.weak ⟨Z,Z,Z,Z,Z,Z,Z,Z,Z,Z,Z,Z,Z,Z,Z,by rw[a5];rfl,trivial⟩⟩
     ·refine Ar f a5 λa f=> ?_
      refine Ar f a5 λa f=>Ar f a5 λa f=>l_o f (AJ (f.e Z) a5 (f.e Z)) λa f=> ?_
      exact⟨_,gr,m,f.weak ⟨Z,Z,Z,Z,Z,Z,Z,Z,Z,Z,Z,Z,Z,Z,Z,by rw[a5];rfl,trivial⟩⟩
    ·rintro a w ⟨a4,a6,m,f⟩
     refine Ac f Z λa f=>Aa ?_
     refine Ap ?_
     have m:Mem W a4 w H:=Mem.drop (H':=[ib an 3 [(iv x1)],ib am 38 [aa,ab,ac,ad]]) m
     obtain rfl:=sj hd
     exact⟨[(.bool (aT&&((aw.length:Int)==0)))],f.g Z,f.d,_,[],(gt aD (gt aJ (gt a3 a6))),m,Z,Z⟩
  ·refine Ai f Z aS ?_
   refine Ae ?_
   refine Ah f Z Z Bj λa f=>Ac f Z λa f=>Aa ?_
   rcases Af hd with⟨a7,hd⟩|⟨a7,hd⟩
   ·refine Al f Z a7 ?_
    refine Ag ?_
    refine Bf 34 AU (by kernel_rfl) m ?_
    refine An 0 34 Z f Z λa f=>q_p 1 34 Z f (λ_=>Bn (f.e Z) (f.e Z) Bj) λa f=>An 2 34 Z f Z λa f=>Cw (fuel':=27) (listed':= #[true,true,true,true,true,true,true,false,false,false,false,false,false,false,false,false,false,false,false,false,false,false,false,false,false,false,false,false,false,false,false,false,false,false]) (λa=>Fr a 155 [(0,(.agg #[aa,ab,ac,ad])),(1,(iv x1)),(2,v2),(3,(iv x3)),(4,(pb am)),(5,(pb an)),(9,(iv ao)),(10,az),(28,(iv aM)),(45,(.bool (aM==4))),(47,(iv ao)),(48,(.bool (ao==(-1)))),(49,(.bool (ao==(-1)))),(53,(.bool ((ao==(-1))&&((aw.length:Int)==2))))]) ?_ ?_
    ·intro a f
     refine An 7 34 Z f Z λa f=> ?_
     have⟨a8,a9,hd⟩:=bind_some hd
     refine Cw (fuel':=14) (listed':= #[true,true,true,true,true,true,true,true,true,true,true,true,true,true,true,true,true,true,true,true,false,false,false,false,false,false,false,false,false,false,false,false,false,false]) (λa=>Fr a 155 [(0,(.agg #[aa,ab,ac,ad])),(1,(iv x1)),(2,v2),(3,(iv x3)),(4,(pb am)),(5,(pb an)),(9,(iv ao)),(10,az),(28,(iv aM)),(45,(.bool (aM==4))),(47,(iv ao)),(48,(.bool (ao==(-1)))),(49,(.bool (ao==(-1)))),(53,(.bool ((ao==(-1))&&((aw.length:Int)==2)))),(54,(.bool ((ao==(-1))&&((aw.length:Int)==2)))),(66,(.bool a8))]) ?_ ?_
     ·intro a f
      refine An 20 34 Z f Z λa f=> ?_
      have⟨ba,bb,hd⟩:=bind_some hd
      refine Cw (fuel':=1) (listed':= #[true,true,true,true,true,true,true,true,true,true,true,true,true,true,true,true,true,true,true,true,true,true,true,true,true,true,true,true,true,true,true,true,true,false]) (λa=>Fr a 155 [(0,(.agg #[aa,ab,ac,ad])),(1,(iv x1)),(2,v2),(3,(iv x3)),(4,(pb am)),(5,(pb an)),(9,(iv ao)),(10,az),(28,(iv aM)),(45,(.bool (aM==4))),(47,(iv ao)),(48,(.bool (ao==(-1)))),(49,(.bool (ao==(-1)))),(53,(.bool ((ao==(-1))&&((aw.length:Int)==2)))),(54,(.bool ((ao==(-1))&&((aw.length:Int)==2)))),(66,(.bool a8)),(67,(.bool a8)),(79,(.bool ba))]) ?_ ?_
      ·intro a f
       refine q_p 33 34 Z f (λ_=>Bs (f.e Z)) λa f=>A2 λbc w bd m=>Aa ?_
       refine Ap ?_
       have m:Mem W bc w H:=Mem.drop (H':=[ib an 3 [(iv x1)],ib am 38 [aa,ab,ac,ad]]) m
       obtain rfl:=sj hd
       exact⟨[(.bool ba)],f.g Z,f.d,_,[],(gt aD (gt aJ bd)),m,Z,Z⟩
      ·intro be
       rcases Af bb with⟨bf,bb⟩|⟨bf,bb⟩
       ·refine An (hw:=wo f bf) 21 34 Z f Z λa f=> ?_
        refine An (hw:=wo f bf) 22 34 Z f Z λa f=> ?_
        have⟨bg,bh,bb⟩:=bind_some bb
        refine A8 (hw:=wo f bf) 23 34 T35 aB bh Z f Z Z λbi bj a bk bl f=> ?_
        subst bl
        refine A9 (hw:=wo f bf) 24 34 Pl2 bk Z f Z λa f=> ?_
        have⟨bm,bn,bb⟩:=bind_some bb
        refine A8 (hw:=wo f bf) 25 34 T60 h2 bn Z f Z Z λbo bp a bq br f=> ?_
        subst br
        refine A9 (hw:=wo f bf) 26 34 BM bq Z f Z λa f=>An (hw:=wo f bf) 27 34 Z f Z λa f=>Br (hw:=wo f bf) 28 34 0 Pl3 Z Z Z f Z λa f=> ?_
        have⟨bs,bt,bb⟩:=bind_some bb
        refine A8 (hw:=wo f bf) 29 34 T60 h2 bt Z f Z Z λbu bv a bw bx f=> ?_
        subst bx
        refine A9 (hw:=wo f bf) 30 34 BM bw Z f Z λa f=>q_p (hw:=wo f bf) 31 34 Z f (λ_=>Bn (f.e Z) (f.e Z) Bj) λa f=>q_p 32 34 Z f (λ_=>AI (f.e Z) bf (f.e Z)) λa f=> ?_
        obtain rfl:=sj bb
        exact be _ (f.k Z)
       ·refine Aw 21 34 Z f bf λa f=> ?_
        refine Aw 22 34 Z f bf λa f=>Aw 23 34 Z f bf λa f=>Aw 24 34 Z f bf λa f=>Aw 25 34 Z f bf λa f=>Aw 26 34 Z f bf λa f=>Aw 27 34 Z f bf λa f=>Aw 28 34 Z f bf λa f=>Aw 29 34 Z f bf λa f=>Aw 30 34 Z f bf λa f=>Aw 31 34 Z f bf λa f=>q_p 32 34 Z f (λ_=>AJ (f.e Z) bf (f.e Z)) λa f=> ?_
        obtain rfl:=sj bb
        exact be _ (f.k Z)
     ·intro bz
      rcases Af a9 with⟨bA,a9⟩|⟨bA,a9⟩
      ·refine An (hw:=wo f bA) 8 34 Z f Z λa f=> ?_
       refine An (hw:=wo f bA) 9 34 Z f Z λa f=> ?_
       have⟨bB,bC,a9⟩:=bind_some a9
       refine A8 (hw:=wo f bA) 10 34 T35 aB bC Z f Z Z λbD bE a bF bG f=> ?_
       subst bG
       refine A9 (hw:=wo f bA) 11 34 Pl2 bF Z f Z λa f=> ?_
       have⟨bH,bI,a9⟩:=bind_some a9
       refine A8 (hw:=wo f bA) 12 34 T60 h2 bI Z f Z Z λbJ bK a bL bM f=> ?_
       subst bM
       refine A9 (hw:=wo f bA) 13 34 BM bL Z f Z λa f=>An (hw:=wo f bA) 14 34 Z f Z λa f=>Br (hw:=wo f bA) 15 34 0 Pl3 Z Z Z f Z λa f=> ?_
       have⟨bN,bO,a9⟩:=bind_some a9
       refine A8 (hw:=wo f bA) 16 34 T60 h2 bO Z f Z Z λbP bQ a bR bS f=> ?_
       subst bS
       refine A9 (hw:=wo f bA) 17 34 BM bR Z f Z λa f=>q_p (hw:=wo f bA) 18 34 Z f (λ_=>Bn (f.e Z) (f.e Z) Bj) λa f=>q_p 19 34 Z f (λ_=>AI (f.e Z) bA (f.e Z)) λa f=> ?_
       obtain rfl:=sj a9
       exact bz _ (f.k Z)
      ·refine Aw 8 34 Z f bA λa f=> ?_
       refine Aw 9 34 Z f bA λa f=>Aw 10 34 Z f bA λa f=>Aw 11 34 Z f bA λa f=>Aw 12 34 Z f bA λa f=>Aw 13 34 Z f bA λa f=>Aw 14 34 Z f bA λa f=>Aw 15 34 Z f bA λa f=>Aw 16 34 Z f bA λa f=>Aw 17 34 Z f bA λa f=>Aw 18 34 Z f bA λa f=>q_p 19 34 Z f (λ_=>AJ (f.e Z) bA (f.e Z)) λa f=> ?_
       obtain rfl:=sj a9
       exact bz _ (f.k Z)
    ·intro bT
     rcases Bool.eq_false_or_eq_true (ao==(-1)) with bU|bU
     ·refine An (hw:=wo f bU) 3 34 Z f Z λa f=> ?_
      refine q_len (i:=4) 34 underlying35 aB Z (by kernel_rfl) Z f (BH f Z Z Z bU) Z Z λa f=>q_p (hw:=wo f bU) 5 34 Z f (λ_=>Bn (f.e Z) (f.e Z) Bj) λa f=>q_p 6 34 Z f (λ_=>AI (f.e Z) bU (f.e Z)) λa f=> ?_
      exact bT _ (f.weak ⟨Z,Z,Z,Z,Z,Z,Z,Z,Z,Z,Z,Z,Z,by rw[bU];rfl,trivial⟩)
     ·refine Aw 3 34 Z f bU λa f=> ?_
      refine Aw 4 34 Z f bU λa f=>Aw 5 34 Z f bU λa f=>q_p 6 34 Z f (λ_=>AJ (f.e Z) bU (f.e Z)) λa f=> ?_
      exact bT _ (f.weak ⟨Z,Z,Z,Z,Z,Z,Z,Z,Z,Z,Z,Z,Z,by rw[bU];rfl,trivial⟩)
   ·refine Ai f Z a7 ?_
    refine Ae ?_
    refine Ah f Z Z Bj λa f=>Ac f Z λa f=>Aa ?_
    rcases Af hd with⟨bV,hd⟩|⟨bV,hd⟩
    ·refine Al f Z bV ?_
     refine Ag ?_
     refine Bf 37 AU (by kernel_rfl) m ?_
     refine An 0 37 Z f Z λa f=>An 1 37 Z f Z λa f=>q_p 2 37 Z f (λ_=>Bn (f.e Z) (f.e Z) Ck) λa f=> ?_
     have⟨bW,bX,hd⟩:=bind_some hd
     refine BJ (i:=3) 37 Z (by kernel_rfl) Z f Z Z Z call95 (λ_ _ w bY m=>Wk.B m bX) λa f=>An 4 37 Z f Z λa f=>Cw (fuel':=28) (listed':= #[true,true,true,true,true,true,true,true,true,false,false,false,false,false,false,false,false,false,false,false,false,false,false,false,false,false,false,false,false,false,false,false,false,false,false,false,false]) (λa=>Fr a 155 [(0,(.agg #[aa,ab,ac,ad])),(1,(iv x1)),(2,v2),(3,(iv x3)),(4,(pb am)),(5,(pb an)),(9,(iv ao)),(10,az),(28,(iv aM)),(80,(.bool (aM==2))),(82,(iv ao)),(83,(iv x3)),(84,(iv (i64.wrap (x3-1)))),(85,(.bool bW)),(86,(.bool bW)),(90,(.bool (bW&&((aw.length:Int)==1))))]) ?_ ?_
     ·intro a f
      refine An 9 37 Z f Z λa f=> ?_
      have⟨bZ,b0,hd⟩:=bind_some hd
      refine Cw (fuel':=17) (listed':= #[true,true,true,true,true,true,true,true,true,true,true,true,true,true,true,true,true,true,true,true,false,false,false,false,false,false,false,false,false,false,false,false,false,false,false,false,false]) (λa=>Fr a 155 [(0,(.agg #[aa,ab,ac,ad])),(1,(iv x1)),(2,v2),(3,(iv x3)),(4,(pb am)),(5,(pb an)),(9,(iv ao)),(10,az),(28,(iv aM)),(80,(.bool (aM==2))),(82,(iv ao)),(83,(iv x3)),(84,(iv (i64.wrap (x3-1)))),(85,(.bool bW)),(86,(.bool bW)),(90,(.bool (bW&&((aw.length:Int)==1)))),(91,(.bool (bW&&((aw.length:Int)==1)))),(101,(.bool bZ))]) ?_ ?_
      ·intro a f
       refine An 20 37 Z f Z λa f=> ?_
       have⟨b1,b2,hd⟩:=bind_some hd
       refine Cw (fuel':=1) (listed':= #[true,true,true,true,true,true,true,true,true,true,true,true,true,true,true,true,true,true,true,true,true,true,true,true,true,true,true,true,true,true,true,true,true,true,true,true,false]) (λa=>Fr a 155 [(0,(.agg #[aa,ab,ac,ad])),(1,(iv x1)),(2,v2),(3,(iv x3)),(4,(pb am)),(5,(pb an)),(9,(iv ao)),(10,az),(28,(iv aM)),(80,(.bool (aM==2))),(82,(iv ao)),(83,(iv x3)),(84,(iv (i64.wrap (x3-1)))),(85,(.bool bW)),(86,(.bool bW)),(90,(.bool (bW&&((aw.length:Int)==1)))),(91,(.bool (bW&&((aw.length:Int)==1)))),(101,(.bool bZ)),(102,(.bool bZ)),(117,(.bool b1))]) ?_ ?_
       ·intro a f
        refine q_p 36 37 Z f (λ_=>Bs (f.e Z)) λa f=>A2 λb3 w b4 m=>Aa ?_
        refine Ap ?_
        have m:Mem W b3 w H:=Mem.drop (H':=[ib an 3 [(iv x1)],ib am 38 [aa,ab,ac,ad]]) m
        obtain rfl:=sj hd
        exact⟨[(.bool b1)],f.g Z,f.d,_,[],(gt aD (gt aJ b4)),m,Z,Z⟩
       ·intro b5
        rcases Af b2 with⟨b6,b2⟩|⟨b6,b2⟩
        ·refine An (hw:=wo f b6) 21 37 Z f Z λa f=> ?_
         refine Br (hw:=wo f b6) 22 37 0 Pl3 Z Z Z f Z λa f=> ?_
         have⟨b7,b8,b2⟩:=bind_some b2
         refine A8 (hw:=wo f b6) 23 37 T60 h2 b8 Z f Z Z λb9 ca a cb cc f=> ?_
         subst cc
         refine A9 (hw:=wo f b6) 24 37 BM cb Z f Z λa f=>An (hw:=wo f b6) 25 37 Z f Z λa f=>An (hw:=wo f b6) 26 37 Z f Z λa f=> ?_
         have⟨cd,ce,b2⟩:=bind_some b2
         refine A8 (hw:=wo f b6) 27 37 T35 aB ce Z f Z Z λcf cg a ch ci f=> ?_
         subst ci
         refine A9 (hw:=wo f b6) 28 37 Pl2 ch Z f Z λa f=> ?_
         have⟨cj,ck,b2⟩:=bind_some b2
         refine A8 (hw:=wo f b6) 29 37 T60 h2 ck Z f Z Z λcl cm a cn co f=> ?_
         subst co
         refine A9 (hw:=wo f b6) 30 37 BM cn Z f Z λa f=>An (hw:=wo f b6) 31 37 Z f Z λa f=> ?_
         have⟨cp,cq,b2⟩:=bind_some b2
         refine BJ (i:=32) 37 Z (by kernel_rfl) Z f (BH f Z Z Z b6) Z Z call38 (λ_ _ w cr m=>Wk.a m cq) λa f=>q_p (hw:=wo f b6) 33 37 Z f (λ_=>Bn (f.e Z) (f.e Z) Db) λa f=>q_p (hw:=wo f b6) 34 37 Z f (λ_=>Bn (f.e Z) (f.e Z) Bj) λa f=>q_p 35 37 Z f (λ_=>AI (f.e Z) b6 (f.e Z)) λa f=> ?_
         obtain rfl:=sj b2
         exact b5 _ (f.k Z)
        ·refine Aw 21 37 Z f b6 λa f=> ?_
         refine Aw 22 37 Z f b6 λa f=>Aw 23 37 Z f b6 λa f=>Aw 24 37 Z f b6 λa f=>Aw 25 37 Z f b6 λa f=>Aw 26 37 Z f b6 λa f=>Aw 27 37 Z f b6 λa f=>Aw 28 37 Z f b6 λa f=>Aw 29 37 Z f b6 λa f=>Aw 30 37 Z f b6 λa f=>Aw 31 37 Z f b6 λa f=>Aw 32 37 Z f b6 λa f=>Aw 33 37 Z f b6 λa f=>Aw 34 37 Z f b6 λa f=>q_p 35 37 Z f (λ_=>AJ (f.e Z) b6 (f.e Z)) λa f=> ?_
         obtain rfl:=sj b2
         exact b5 _ (f.k Z)
      ·intro ct
       rcases Af b0 with⟨cu,b0⟩|⟨cu,b0⟩
       ·refine An (hw:=wo f cu) 10 37 Z f Z λa f=> ?_
        refine An (hw:=wo f cu) 11 37 Z f Z λa f=> ?_
        have⟨cv,cw,b0⟩:=bind_some b0
        refine A8 (hw:=wo f cu) 12 37 T35 aB cw Z f Z Z λcx cy a cz cA f=> ?_
        subst cA
        refine A9 (hw:=wo f cu) 13 37 Pl2 cz Z f Z λa f=> ?_
        have⟨cB,cC,b0⟩:=bind_some b0
        refine A8 (hw:=wo f cu) 14 37 T60 h2 cC Z f Z Z λcD cE a cF cG f=> ?_
        subst cG
        refine A9 (hw:=wo f cu) 15 37 BM cF Z f Z λa f=>An (hw:=wo f cu) 16 37 Z f Z λa f=> ?_
        have⟨cH,cI,b0⟩:=bind_some b0
        refine BJ (i:=17) 37 Z (by kernel_rfl) Z f (BH f Z Z Z cu) Z Z call40 (λ_ _ w cJ m=>Wk.c m cI) λa f=>q_p (hw:=wo f cu) 18 37 Z f (λ_=>By (f.e Z)) λa f=>q_p 19 37 Z f (λ_=>AI (f.e Z) cu (f.e Z)) λa f=> ?_
        obtain rfl:=sj b0
        exact ct _ (f.k Z)
       ·refine Aw 10 37 Z f cu λa f=> ?_
        refine Aw 11 37 Z f cu λa f=>Aw 12 37 Z f cu λa f=>Aw 13 37 Z f cu λa f=>Aw 14 37 Z f cu λa f=>Aw 15 37 Z f cu λa f=>Aw 16 37 Z f cu λa f=>Aw 17 37 Z f cu λa f=>Aw 18 37 Z f cu λa f=>q_p 19 37 Z f (λ_=>AJ (f.e Z) cu (f.e Z)) λa f=> ?_
        obtain rfl:=sj b0
        exact ct _ (f.k Z)
     ·intro cK
      rcases Bool.eq_false_or_eq_true bW with cL|cL
      ·refine An (hw:=wo f cL) 5 37 Z f Z λa f=> ?_
       refine q_len (i:=6) 37 underlying35 aB Z (by kernel_rfl) Z f (BH f Z Z Z cL) Z Z λa f=>q_p (hw:=wo f cL) 7 37 Z f (λ_=>Bn (f.e Z) (f.e Z) Bj) λa f=>q_p 8 37 Z f (λ_=>AI (f.e Z) cL (f.e Z)) λa f=> ?_
       exact cK _ (f.weak ⟨Z,Z,Z,Z,Z,Z,Z,Z,Z,Z,Z,Z,Z,Z,Z,by rw[cL];rfl,trivial⟩)
      ·refine Aw 5 37 Z f cL λa f=> ?_
       refine Aw 6 37 Z f cL λa f=>Aw 7 37 Z f cL λa f=>q_p 8 37 Z f (λ_=>AJ (f.e Z) cL (f.e Z)) λa f=> ?_
       exact cK _ (f.weak ⟨Z,Z,Z,Z,Z,Z,Z,Z,Z,Z,Z,Z,Z,Z,Z,by rw[cL];rfl,trivial⟩)
    ·refine Ai f Z bV ?_
     refine Ae ?_
     refine Ah f Z Z Bj λa f=>Ac f Z λa f=>Aa ?_
     rcases Af hd with⟨cM,hd⟩|⟨cM,hd⟩
     ·refine Al f Z cM ?_
      refine Ag ?_
      refine Bf 36 AU (by kernel_rfl) m ?_
      refine An 0 36 Z f Z λa f=>An 1 36 Z f Z λa f=>q_p 2 36 Z f (λ_=>Bn (f.e Z) (f.e Z) Ck) λa f=> ?_
      have⟨cN,cO,hd⟩:=bind_some hd
      refine BJ (i:=3) 36 Z (by kernel_rfl) Z f Z Z Z call95 (λ_ _ w cP m=>Wk.B m cO) λa f=>An 4 36 Z f Z λa f=>Cw (fuel':=27) (listed':= #[true,true,true,true,true,true,true,true,true,false,false,false,false,false,false,false,false,false,false,false,false,false,false,false,false,false,false,false,false,false,false,false,false,false,false,false]) (λa=>Fr a 155 [(0,(.agg #[aa,ab,ac,ad])),(1,(iv x1)),(2,v2),(3,(iv x3)),(4,(pb am)),(5,(pb an)),(9,(iv ao)),(10,az),(118,(.bool (aM==3))),(120,(iv ao)),(121,(iv x3)),(122,(iv (i64.wrap (x3-1)))),(123,(.bool cN)),(124,(.bool cN)),(128,(.bool (cN&&((aw.length:Int)==1))))]) ?_ ?_
      ·intro a f
       refine An 9 36 Z f Z λa f=> ?_
       have⟨cQ,cR,hd⟩:=bind_some hd
       refine Cw (fuel':=17) (listed':= #[true,true,true,true,true,true,true,true,true,true,true,true,true,true,true,true,true,true,true,false,false,false,false,false,false,false,false,false,false,false,false,false,false,false,false,false]) (λa=>Fr a 155 [(0,(.agg #[aa,ab,ac,ad])),(1,(iv x1)),(2,v2),(3,(iv x3)),(4,(pb am)),(5,(pb an)),(9,(iv ao)),(10,az),(118,(.bool (aM==3))),(120,(iv ao)),(121,(iv x3)),(122,(iv (i64.wrap (x3-1)))),(123,(.bool cN)),(124,(.bool cN)),(128,(.bool (cN&&((aw.length:Int)==1)))),(129,(.bool (cN&&((aw.length:Int)==1)))),(138,(.bool cQ))]) ?_ ?_
       ·intro a f
        refine An 19 36 Z f Z λa f=> ?_
        have⟨cS,cT,hd⟩:=bind_some hd
        refine Cw (fuel':=1) (listed':= #[true,true,true,true,true,true,true,true,true,true,true,true,true,true,true,true,true,true,true,true,true,true,true,true,true,true,true,true,true,true,true,true,true,true,true,false]) (λa=>Fr a 155 [(0,(.agg #[aa,ab,ac,ad])),(1,(iv x1)),(2,v2),(3,(iv x3)),(4,(pb am)),(5,(pb an)),(9,(iv ao)),(10,az),(118,(.bool (aM==3))),(120,(iv ao)),(121,(iv x3)),(122,(iv (i64.wrap (x3-1)))),(123,(.bool cN)),(124,(.bool cN)),(128,(.bool (cN&&((aw.length:Int)==1)))),(129,(.bool (cN&&((aw.length:Int)==1)))),(138,(.bool cQ)),(139,(.bool cQ)),(154,(.bool cS))]) ?_ ?_
        ·intro a f
         refine q_p 35 36 Z f (λ_=>Bs (f.e Z)) λa f=>A2 λcU w cV m=>Aa ?_
         refine Ap ?_
         have m:Mem W cU w H:=Mem.drop (H':=[ib an 3 [(iv x1)],ib am 38 [aa,ab,ac,ad]]) m
         obtain rfl:=sj hd
         exact⟨[(.bool cS)],f.g Z,f.d,_,[],(gt aD (gt aJ cV)),m,Z,Z⟩
        ·intro cW
         rcases Af cT with⟨cX,cT⟩|⟨cX,cT⟩
         ·refine An (hw:=wo f cX) 20 36 Z f Z λa f=> ?_
          refine Br (hw:=wo f cX) 21 36 0 Pl3 Z Z Z f Z λa f=> ?_
          have⟨cY,cZ,cT⟩:=bind_some cT
          refine A8 (hw:=wo f cX) 22 36 T60 h2 cZ Z f Z Z λc0 c1 a c2 c3 f=> ?_
          subst c3
          refine A9 (hw:=wo f cX) 23 36 BM c2 Z f Z λa f=>An (hw:=wo f cX) 24 36 Z f Z λa f=>An (hw:=wo f cX) 25 36 Z f Z λa f=> ?_
          have⟨c4,c5,cT⟩:=bind_some cT
          refine A8 (hw:=wo f cX) 26 36 T35 aB c5 Z f Z Z λc6 c7 a c8 c9 f=> ?_
          subst c9
          refine A9 (hw:=wo f cX) 27 36 Pl2 c8 Z f Z λa f=> ?_
          have⟨da,db,cT⟩:=bind_some cT
          refine A8 (hw:=wo f cX) 28 36 T60 h2 db Z f Z Z λdc dd a de df f=> ?_
          subst df
          refine A9 (hw:=wo f cX) 29 36 BM de Z f Z λa f=>An (hw:=wo f cX) 30 36 Z f Z λa f=> ?_
          have⟨dg,dh,cT⟩:=bind_some cT
          refine BJ (i:=31) 36 Z (by kernel_rfl) Z f (BH f Z Z Z cX) Z Z call38 (λ_ _ w di m=>Wk.a m dh) λa f=>q_p (hw:=wo f cX) 32 36 Z f (λ_=>Bn (f.e Z) (f.e Z) CN) λa f=>q_p (hw:=wo f cX) 33 36 Z f (λ_=>Bn (f.e Z) (f.e Z) Bj) λa f=>q_p 34 36 Z f (λ_=>AI (f.e Z) cX (f.e Z)) λa f=> ?_
          obtain rfl:=sj cT
          exact cW _ (f.k Z)
         ·refine Aw 20 36 Z f cX λa f=> ?_
          refine Aw 21 36 Z f cX λa f=>Aw 22 36 Z f cX λa f=>Aw 23 36 Z f cX λa f=>Aw 24 36 Z f cX λa f=>Aw 25 36 Z f cX λa f=>Aw 26 36 Z f cX λa f=>Aw 27 36 Z f cX λa f=>Aw 28 36 Z f cX λa f=>Aw 29 36 Z f cX λa f=>Aw 30 36 Z f cX λa f=>Aw 31 36 Z f cX λa f=>Aw 32 36 Z f cX λa f=>Aw 33 36 Z f cX λa f=>q_p 34 36 Z f (λ_=>AJ (f.e Z) cX (f.e Z)) λa f=> ?_
          obtain rfl:=sj cT
          exact cW _ (f.k Z)
       ·intro dj
        rcases Af cR with⟨dk,cR⟩|⟨dk,cR⟩
        ·refine An (hw:=wo f dk) 10 36 Z f Z λa f=> ?_
         refine An (hw:=wo f dk) 11 36 Z f Z λa f=> ?_
         have⟨dl,dm,cR⟩:=bind_some cR
         refine A8 (hw:=wo f dk) 12 36 T35 aB dm Z f Z Z λdn dp a dq dr f=> ?_
         subst dr
         refine A9 (hw:=wo f dk) 13 36 Pl2 dq Z f Z λa f=> ?_
         have⟨ds,dt,cR⟩:=bind_some cR
         refine A8 (hw:=wo f dk) 14 36 T60 h2 dt Z f Z Z λdu dv a dw dx f=> ?_
         subst dx
         refine A9 (hw:=wo f dk) 15 36 BM dw Z f Z λa f=>An (hw:=wo f dk) 16 36 Z f Z λa f=> ?_
         have⟨dy,dz,cR⟩:=bind_some cR
         refine BJ (i:=17) 36 Z (by kernel_rfl) Z f (BH f Z Z Z dk) Z Z call40 (λ_ _ w dA m=>Wk.c m dz) λa f=>q_p 18 36 Z f (λ_=>AI (f.e Z) dk (f.e Z)) λa f=> ?_
         obtain rfl:=sj cR
         exact dj _ (f.k Z)
        ·refine Aw 10 36 Z f dk λa f=> ?_
         refine Aw 11 36 Z f dk λa f=>Aw 12 36 Z f dk λa f=>Aw 13 36 Z f dk λa f=>Aw 14 36 Z f dk λa f=>Aw 15 36 Z f dk λa f=>Aw 16 36 Z f dk λa f=>Aw 17 36 Z f dk λa f=>q_p 18 36 Z f (λ_=>AJ (f.e Z) dk (f.e Z)) λa f=> ?_
         obtain rfl:=sj cR
         exact dj _ (f.k Z)
      ·intro dB
       rcases Bool.eq_false_or_eq_true cN with dC|dC
       ·refine An (hw:=wo f dC) 5 36 Z f Z λa f=> ?_
        refine q_len (i:=6) 36 underlying35 aB Z (by kernel_rfl) Z f (BH f Z Z Z dC) Z Z λa f=>q_p (hw:=wo f dC) 7 36 Z f (λ_=>Bn (f.e Z) (f.e Z) Bj) λa f=>q_p 8 36 Z f (λ_=>AI (f.e Z) dC (f.e Z)) λa f=> ?_
        exact dB _ (f.weak ⟨Z,Z,Z,Z,Z,Z,Z,Z,Z,Z,Z,Z,Z,Z,by rw[dC];rfl,trivial⟩)
       ·refine Aw 5 36 Z f dC λa f=> ?_
        refine Aw 6 36 Z f dC λa f=>Aw 7 36 Z f dC λa f=>q_p 8 36 Z f (λ_=>AJ (f.e Z) dC (f.e Z)) λa f=> ?_
        exact dB _ (f.weak ⟨Z,Z,Z,Z,Z,Z,Z,Z,Z,Z,Z,Z,Z,Z,by rw[dC];rfl,trivial⟩)
     ·refine Ai f Z cM ?_
      refine Am ?_
      refine Ae ?_
      refine Ac f Z λa f=>Aa ?_
      refine Ap ?_
      have m:Mem W aH w H:=Mem.drop (H':=[ib an 3 [(iv x1)],ib am 38 [aa,ab,ac,ad]]) m
      obtain rfl:=sj hd
      exact⟨[(.bool false)],f.g Z,f.d,_,[],(gt aD aJ),m,Z,Z⟩
end Go.Proofs.YteijfbpfjjjedaaGreatDoor
