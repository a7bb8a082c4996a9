/- Parts. -/
import Derived.Test.YteijfbpfjjjedaaGreatDoorTt3
import Derived.Test.YteijfbpfjjjedaaGreatDoorProg
import Derived.KernelRfl
set_option linter.unusedVariables false
set_option linter.unusedSimpArgs false
set_option linter.unusedSectionVars false
set_option maxRecDepth 100000
namespace Go.Proofs.YteijfbpfjjjedaaGreatDoor
open Go Go.Sx
open Go.Proofs.Tryz Go.Proofs.YteijfbpfjjjedaaGreatDoor.Tryz IntKind
variable {W w : World} {G : GH} {H : List Itm}
theorem Mf75 :KeyE prog 75 eW2:=KeyE.w2 (ft:=69) ⟨underlying75,rfl,rfl,rfl,rfl,by decide,by decide,underlying69,isAgg69,Tryz.stoodInHeld75⟩
theorem Dx :Agg prog 75 2:=⟨isAgg75,sizeOf75⟩
theorem Dz :SlT prog 121 79 1 8 (.map none):=⟨underlying121,Tryz.t79,by kernel_rfl,by kernel_rfl,by kernel_rfl,by kernel_rfl⟩
theorem T76 :SlT prog 76 75 2 8 (.agg #[(.int .u32 0),(.int .u32 0)]):=⟨underlying76,Tryz.t75,by kernel_rfl,by kernel_rfl,by kernel_rfl,by kernel_rfl⟩
theorem Pl83 :BS prog 83:=isAgg83
theorem Ag85 :Agg prog 85 5:=⟨isAgg85,sizeOf85⟩
theorem Pl78 :BS prog 78:=isAgg78
theorem Pl79 :BS prog 79:=isAgg79
theorem Pl81 :BS prog 81:=isAgg81
theorem Pl82 :BS prog 82:=isAgg82
theorem Mf69 :KeyE prog 69 BL:=KeyE.u32 underlying69
theorem Dy :SlT prog 124 88 1 8 (.map none):=⟨underlying124,Tryz.t88,by kernel_rfl,by kernel_rfl,by kernel_rfl,by kernel_rfl⟩
theorem Ag94 :Agg prog 94 5:=⟨isAgg94,sizeOf94⟩
theorem Pl87 :BS prog 87:=isAgg87
theorem Pl88 :BS prog 88:=isAgg88
theorem Pl91 :BS prog 91:=isAgg91
theorem Pl92 :BS prog 92:=isAgg92
theorem Wk.a1 {x0:Int}(m:Mem W G w (H)){y:Bool}(hd:D.a1 x0=some y):
  Calls prog 85 #[(iv x0)] w (Res W G H (λ_ Ho v=>Ho=[]∧v=(.bool y))):=by
 refine Au (args:=[(iv x0)]) (N:=5) [.tmp 2] func85 Z Z (lb Z) Z λa f=> ?_
 unfold D.a1 at hd
 refine Ae ?_
 refine Ac f Z λa f=>AD ?_
 refine Ab f Z λa f=>Ah f Z Z Cm λa f=>Ac f Z λa f=>Aa ?_
 refine Ap ?_
 obtain rfl:=sj hd
 exact⟨[(.bool (x0 !=1))],f.g Z,f.d,_,[],gr,m,Z,Z⟩
theorem Wk.Y0 {v0:Value}{x0:LI}(m:Mem W G w (H))(h0:R1 G v0 x0){y:Int}(hd:D.Y0 x0=some y):
  Calls prog 102 #[v0,(.func (.func 85) #[] #[])] w (Res W G H (λ_ Ho v=>Ho=[]∧v=(iv y))):=by
 refine Au (args:=[v0,(.func (.func 85) #[] #[])]) (N:=19) [.tmp 4] func102 Z Z (lb Z) Z λa f=> ?_
 unfold D.Y0 at hd
 refine Ae ?_
 refine Ac f Z λa f=>Aa (Ag (Ae ?_))
 refine Ab f Z λa f=>AL underlying89 f Z Z h0 λa f=>Ab f Z λa f=>Aa ?_
 have⟨aa,ab,hd⟩:=bind_some hd
 refine AM (λa w=>∃q_33':Unit,aa= .inl q_33'∧∃(ac:GH),GLe G ac∧Fr a 19 []∧Mem W ac w (H)) ?_ ?_
 ·refine Ak ?_
  refine AO (λad a w=>∃ae:Int,ae=ad∧∃(af:GH),GLe G af∧Fr a 19 [(0,v0),(1,(.func (.func 85) #[] #[])),(7,(iv (x0.length:Int))),(8,(iv ae))]∧Mem W af w (H)) ab ⟨_,Z,_,gr,f.k Z,m⟩ ?_
  clear ab f m
  rintro ad ag ah ai a w ⟨ae,rfl,af,aj,f,m⟩
  have h0:=rd1 aj h0
  refine Ae ?_
  refine Ah f Z Z AR λa f=>Aa (Ag ?_)
  rcases Af ah with⟨ak,ah⟩|⟨ak,ah⟩
  ·refine Al f Z ak ?_
   refine Am ?_
   refine Ag (Ak (Ae ?_))
   refine Ab f Z λa f=>Ac f Z λa f=>AD ?_
   refine Ab f Z λa f=>Ab f Z λa f=>Ab f Z λa f=> ?_
   have⟨al,am,ah⟩:=bind_some ah
   refine A4 T89 f Z Z Z h0 am λan ao a ap aq f=> ?_
   subst aq
   refine Ax m Pl3 f Z Z ap λa f=> ?_
   have⟨ar,au,ah⟩:=bind_some ah
   refine CL f Z Z Z call85 (Wk.a1 m au) λav aw ax w ay m az a f=> ?_
   obtain⟨rfl,rfl⟩:=az
   refine Aa ?_
   rcases Af ah with⟨aA,ah⟩|⟨aA,ah⟩
   ·refine Al f Z aA ?_
    refine Ae ?_
    refine Ab f Z λa f=>Ac f Z λa f=>Aa ?_
    refine Ap ?_
    obtain rfl:=sj ah
    obtain rfl:=ai _ rfl
    obtain rfl:=sj hd
    exact⟨[(iv ae)],f.g Z,f.d,_,[],(gt aj ay),m,Z,Z⟩
   ·refine Ai f Z aA ?_
    refine Am ?_
    refine Aj ?_
    refine Ah f Z Z AB λa f=>Ab f Z λa f=>Aa ?_
    obtain rfl:=sj ah
    exact⟨_,Z,_,Z,_,(gt aj ay),f.k Z,m⟩
  ·refine Ai f Z ak ?_
   refine AG Z ?_
   obtain rfl:=sj ah
   obtain rfl:=ai _ rfl
   exact⟨_,Z,_,aj,f.weak trivial,m⟩
 ·rintro a w ⟨_,rfl,ac,aB,f,m⟩
  refine Ae ?_
  refine Ac f Z λa f=>Aa ?_
  refine Ap ?_
  obtain rfl:=sj hd
  exact⟨[(iv (-1))],f.g Z,f.d,_,[],aB,m,Z,Z⟩
theorem Wk.N0 {v0:Value}{x0:LI}(m:Mem W G w (H))(h0:R1 G v0 x0){y:Bool}(hd:D.N0 x0=some y):
  Calls prog 84 #[v0,(.func (.func 85) #[] #[])] w (Res W G H (λ_ Ho v=>Ho=[]∧v=(.bool y))):=by
 refine Au (args:=[v0,(.func (.func 85) #[] #[])]) (N:=9) [.tmp 4] func84 Z Z (lb Z) Z λa f=> ?_
 unfold D.N0 at hd
 refine Ae ?_
 refine Ac f Z λa f=>AD ?_
 refine Ab f Z λa f=>Ab f Z λa f=> ?_
 have⟨aa,ab,hd⟩:=bind_some hd
 refine Bd f Z call102 (Wk.Y0 m h0 ab) λac w ad m a f=>Ah f Z Z Es λa f=>Ac f Z λa f=>Aa ?_
 refine Ap ?_
 obtain rfl:=sj hd
 exact⟨[(.bool (decide ((0:Int)≤aa)))],f.g Z,f.d,_,[],ad,m,Z,Z⟩
set_option maxHeartbeats 1000000 in
theorem Wk.q {aa ab ac ad ae:Value}{af:LL}{ag ah:LI}{ai aj:LL}(m:Mem W G w (H))(ak:R2 G aa af)(al:R1 G ab ag)(am:R1 G ac ah)(an:R2 G ad ai)(ao:R2 G ae aj){y:Bool}(hd:D.q af ag ah ai aj=some y):
  Calls prog 34 #[(.agg #[aa]),(.agg #[ab,ac,ad,ae])] w (Res W G H (λ_ Ho v=>Ho=[]∧v=(.bool y))):=by
 refine Au (args:=[(.agg #[aa]),(.agg #[ab,ac,ad,ae])]) (N:=159) [.tmp 4] func34 Z Z (lb Z) Z λa f=> ?_
 unfold D.q at hd
 refine Ae ?_
 refine Bo (cs:=[aa]) m f Z Z Z λap w a m f=>Bo (cs:=[ab,ac,ad,ae]) m f Z Z Z λaq w a m f=>Ac f Z λa f=>AD ?_
 refine AW underlying38 Z sizeOf35 f Z λa f=>As 0 0 m Ba f Z Z Z Z λa f=>AL underlying35 f Z Z al λa f=>Ac f Z λa f=>Aa (Ag (Ae ?_))
 refine AC 1 0 (ds:=[aa]) m Bv f Z Z Z Z Z λa f=> ?_
 have⟨ar,au,hd⟩:=bind_some hd
 refine Bd f Z call69 (Wk.b0 m ak au) λav w aw m a f=> ?_
 have ak:=rd2 aw ak
 have al:=rd1 aw al
 have am:=rd1 aw am
 have an:=rd2 aw an
 have ao:=rd2 aw ao
 refine l_o f (By (f.e Z)) λa f=>Ab f Z λa f=> ?_
 refine Bx 3 (λa w=>∃ax,GLe av ax∧Mem W ax w (ib aq 38 [ab,ac,ad,ae]::ib ap 29 [aa]::H)∧Fr a 159 [(0,(.agg #[aa])),(1,(.agg #[ab,ac,ad,ae])),(2,(pb ap)),(3,(pb aq)),(5,(iv (ag.length:Int))),(20,(.agg #[aa])),(21,(.bool ar)),(22,(.bool (!ar))),(23,(.bool (!ar))),(26,(.bool ((!ar)||(decide ((ag.length:Int)<1)))))]) ?_ ?_
 ·rcases Bool.eq_false_or_eq_true (!ar) with ay|ay
  ·refine Ar f ay λa f=> ?_
   refine Ar f ay λa f=>l_o f (AI (f.e Z) ay (f.e Z)) λa f=> ?_
   exact⟨_,gr,m,f.weak ⟨Z,Z,Z,Z,Z,Z,Z,Z,Z,by rw[ay];rfl,trivial⟩⟩
  ·refine Aq f ay ?_
   refine Ab f Z λa f=>Aq f ay ?_
   refine Ah f Z Z AR λa f=>l_o f (AJ (f.e Z) ay (f.e Z)) λa f=> ?_
   exact⟨_,gr,m,f.weak ⟨Z,Z,Z,Z,Z,Z,Z,Z,Z,by rw[ay];rfl,trivial⟩⟩
 ·rintro a w ⟨ax,az,m,f⟩
  have ak:=rd2 az ak
  have al:=rd1 az al
  have am:=rd1 az am
  have an:=rd2 az an
  have ao:=rd2 az ao
  refine Ab f Z λa f=> ?_
  refine Bx 3 (λa w=>∃aA,GLe ax aA∧Mem W aA w (ib aq 38 [ab,ac,ad,ae]::ib ap 29 [aa]::H)∧Fr a 159 [(0,(.agg #[aa])),(1,(.agg #[ab,ac,ad,ae])),(2,(pb ap)),(3,(pb aq)),(5,(iv (ag.length:Int))),(20,(.agg #[aa])),(21,(.bool ar)),(22,(.bool (!ar))),(23,(.bool (!ar))),(26,(.bool ((!ar)||(decide ((ag.length:Int)<1))))),(27,(.bool ((!ar)||(decide ((ag.length:Int)<1))))),(30,(.bool (((!ar)||(decide ((ag.length:Int)<1)))||(decide ((200:Int)<(ag.length:Int))))))]) ?_ ?_
  ·rcases Bool.eq_false_or_eq_true ((!ar)||(decide ((ag.length:Int)<1))) with aB|aB
   ·refine Ar f aB λa f=> ?_
    refine Ar f aB λa f=>l_o f (AI (f.e Z) aB (f.e Z)) λa f=> ?_
    exact⟨_,gr,m,f.weak ⟨Z,Z,Z,Z,Z,Z,Z,Z,Z,Z,Z,by rw[aB];rfl,trivial⟩⟩
   ·refine Aq f aB ?_
    refine Ab f Z λa f=>Aq f aB ?_
    refine Ah f Z Z Cz λa f=>l_o f (AJ (f.e Z) aB (f.e Z)) λa f=> ?_
    exact⟨_,gr,m,f.weak ⟨Z,Z,Z,Z,Z,Z,Z,Z,Z,Z,Z,by rw[aB];rfl,trivial⟩⟩
  ·rintro a w ⟨aA,aC,m,f⟩
   have ak:=rd2 aC ak
   have al:=rd1 aC al
   have am:=rd1 aC am
   have an:=rd2 aC an
   have ao:=rd2 aC ao
   refine Ab f Z λa f=> ?_
   refine Bx 6 (λa w=>∃aD,GLe aA aD∧Mem W aD w (ib aq 38 [ab,ac,ad,ae]::ib ap 29 [aa]::H)∧Fr a 159 [(0,(.agg #[aa])),(1,(.agg #[ab,ac,ad,ae])),(2,(pb ap)),(3,(pb aq)),(5,(iv (ag.length:Int))),(20,(.agg #[aa])),(21,(.bool ar)),(22,(.bool (!ar))),(23,(.bool (!ar))),(26,(.bool ((!ar)||(decide ((ag.length:Int)<1))))),(27,(.bool ((!ar)||(decide ((ag.length:Int)<1))))),(30,(.bool (((!ar)||(decide ((ag.length:Int)<1)))||(decide ((200:Int)<(ag.length:Int)))))),(31,(.bool (((!ar)||(decide ((ag.length:Int)<1)))||(decide ((200:Int)<(ag.length:Int)))))),(37,(.bool ((((!ar)||(decide ((ag.length:Int)<1)))||(decide ((200:Int)<(ag.length:Int))))||((ah.length:Int) !=(ag.length:Int)))))]) ?_ ?_
   ·rcases Bool.eq_false_or_eq_true (((!ar)||(decide ((ag.length:Int)<1)))||(decide ((200:Int)<(ag.length:Int)))) with aE|aE
    ·refine Ar f aE λa f=> ?_
     refine Ar f aE λa f=>Ar f aE λa f=>Ar f aE λa f=>Ar f aE λa f=>l_o f (AI (f.e Z) aE (f.e Z)) λa f=> ?_
     exact⟨_,gr,m,f.weak ⟨Z,Z,Z,Z,Z,Z,Z,Z,Z,Z,Z,Z,Z,by rw[aE];rfl,trivial⟩⟩
    ·refine Aq f aE ?_
     refine AW underlying38 Z sizeOf35 f Z λa f=>Aq f aE ?_
     refine As 0 1 m Ba f Z Z Z Z λa f=>Aq f aE ?_
     refine AL underlying35 f Z Z am λa f=>Aq f aE ?_
     refine Ab f Z λa f=>Aq f aE ?_
     refine Ah f Z Z Cm λa f=>l_o f (AJ (f.e Z) aE (f.e Z)) λa f=> ?_
     exact⟨_,gr,m,f.weak ⟨Z,Z,Z,Z,Z,Z,Z,Z,Z,Z,Z,Z,Z,by rw[aE];rfl,trivial⟩⟩
   ·rintro a w ⟨aD,aF,m,f⟩
    have ak:=rd2 aF ak
    have al:=rd1 aF al
    have am:=rd1 aF am
    have an:=rd2 aF an
    have ao:=rd2 aF ao
    refine Ab f Z λa f=> ?_
    refine Bx 6 (λa w=>∃aG,GLe aD aG∧Mem W aG w (ib aq 38 [ab,ac,ad,ae]::ib ap 29 [aa]::H)∧Fr a 159 [(0,(.agg #[aa])),(1,(.agg #[ab,ac,ad,ae])),(2,(pb ap)),(3,(pb aq)),(5,(iv (ag.length:Int))),(20,(.agg #[aa])),(21,(.bool ar)),(22,(.bool (!ar))),(23,(.bool (!ar))),(26,(.bool ((!ar)||(decide ((ag.length:Int)<1))))),(27,(.bool ((!ar)||(decide ((ag.length:Int)<1))))),(30,(.bool (((!ar)||(decide ((ag.length:Int)<1)))||(decide ((200:Int)<(ag.length:Int)))))),(31,(.bool (((!ar)||(decide ((ag.length:Int)<1)))||(decide ((200:Int)<(ag.length:Int)))))),(37,(.bool ((((!ar)||(decide ((ag.length:Int)<1)))||(decide ((200:Int)<(ag.length:Int))))||((ah.length:Int) !=(ag.length:Int))))),(38,(.bool ((((!ar)||(decide ((ag.length:Int)<1)))||(decide ((200:Int)<(ag.length:Int))))||((ah.length:Int) !=(ag.length:Int))))),(44,(.bool (((((!ar)||(decide ((ag.length:Int)<1)))||(decide ((200:Int)<(ag.length:Int))))||((ah.length:Int) !=(ag.length:Int)))||((ai.length:Int) !=(ag.length:Int)))))]) ?_ ?_
    ·rcases Bool.eq_false_or_eq_true ((((!ar)||(decide ((ag.length:Int)<1)))||(decide ((200:Int)<(ag.length:Int))))||((ah.length:Int) !=(ag.length:Int))) with aH|aH
     ·refine Ar f aH λa f=> ?_
      refine Ar f aH λa f=>Ar f aH λa f=>Ar f aH λa f=>Ar f aH λa f=>l_o f (AI (f.e Z) aH (f.e Z)) λa f=> ?_
      exact⟨_,gr,m,f.weak ⟨Z,Z,Z,Z,Z,Z,Z,Z,Z,Z,Z,Z,Z,Z,Z,by rw[aH];rfl,trivial⟩⟩
     ·refine Aq f aH ?_
      refine AW underlying38 Z sizeOf27 f Z λa f=>Aq f aH ?_
      refine As 0 2 m Be f Z Z Z Z λa f=>Aq f aH ?_
      refine AL underlying27 f Z Z an λa f=>Aq f aH ?_
      refine Ab f Z λa f=>Aq f aH ?_
      refine Ah f Z Z Cm λa f=>l_o f (AJ (f.e Z) aH (f.e Z)) λa f=> ?_
      exact⟨_,gr,m,f.weak ⟨Z,Z,Z,Z,Z,Z,Z,Z,Z,Z,Z,Z,Z,Z,Z,by rw[aH];rfl,trivial⟩⟩
    ·rintro a w ⟨aG,aI,m,f⟩
     have ak:=rd2 aI ak
     have al:=rd1 aI al
     have am:=rd1 aI am
     have an:=rd2 aI an
     have ao:=rd2 aI ao
     refine Ab f Z λa f=> ?_
     refine Bx 6 (λa w=>∃aJ,GLe aG aJ∧Mem W aJ w (ib aq 38 [ab,ac,ad,ae]::ib ap 29 [aa]::H)∧Fr a 159 [(0,(.agg #[aa])),(1,(.agg #[ab,ac,ad,ae])),(2,(pb ap)),(3,(pb aq)),(5,(iv (ag.length:Int))),(20,(.agg #[aa])),(21,(.bool ar)),(22,(.bool (!ar))),(23,(.bool (!ar))),(26,(.bool ((!ar)||(decide ((ag.length:Int)<1))))),(27,(.bool ((!ar)||(decide ((ag.length:Int)<1))))),(30,(.bool (((!ar)||(decide ((ag.length:Int)<1)))||(decide ((200:Int)<(ag.length:Int)))))),(31,(.bool (((!ar)||(decide ((ag.length:Int)<1)))||(decide ((200:Int)<(ag.length:Int)))))),(37,(.bool ((((!ar)||(decide ((ag.length:Int)<1)))||(decide ((200:Int)<(ag.length:Int))))||((ah.length:Int) !=(ag.length:Int))))),(38,(.bool ((((!ar)||(decide ((ag.length:Int)<1)))||(decide ((200:Int)<(ag.length:Int))))||((ah.length:Int) !=(ag.length:Int))))),(44,(.bool (((((!ar)||(decide ((ag.length:Int)<1)))||(decide ((200:Int)<(ag.length:Int))))||((ah.length:Int) !=(ag.length:Int)))||((ai.length:Int) !=(ag.length:Int))))),(45,(.bool (((((!ar)||(decide ((ag.length:Int)<1)))||(decide ((200:Int)<(ag.length:Int))))||((ah.length:Int) !=(ag.length:Int)))||((ai.length:Int) !=(ag.length:Int))))),(51,(.bool ((((((!ar)||(decide ((ag.length:Int)<1)))||(decide ((200:Int)<(ag.length:Int))))||((ah.length:Int) !=(ag.length:Int)))||((ai.length:Int) !=(ag.length:Int)))||((aj.length:Int) !=(ag.length:Int)))))]) ?_ ?_
     ·rcases Bool.eq_false_or_eq_true (((((!ar)||(decide ((ag.length:Int)<1)))||(decide ((200:Int)<(ag.length:Int))))||((ah.length:Int) !=(ag.length:Int)))||((ai.length:Int) !=(ag.length:Int))) with aK|aK
      ·refine Ar f aK λa f=> ?_
       refine Ar f aK λa f=>Ar f aK λa f=>Ar f aK λa f=>Ar f aK λa f=>l_o f (AI (f.e Z) aK (f.e Z)) λa f=> ?_
       exact⟨_,gr,m,f.weak ⟨Z,Z,Z,Z,Z,Z,Z,Z,Z,Z,Z,Z,Z,Z,Z,Z,Z,by rw[aK];rfl,trivial⟩⟩
      ·refine Aq f aK ?_
       refine AW underlying38 Z sizeOf27 f Z λa f=>Aq f aK ?_
       refine As 0 3 m Be f Z Z Z Z λa f=>Aq f aK ?_
       refine AL underlying27 f Z Z ao λa f=>Aq f aK ?_
       refine Ab f Z λa f=>Aq f aK ?_
       refine Ah f Z Z Cm λa f=>l_o f (AJ (f.e Z) aK (f.e Z)) λa f=> ?_
       exact⟨_,gr,m,f.weak ⟨Z,Z,Z,Z,Z,Z,Z,Z,Z,Z,Z,Z,Z,Z,Z,Z,Z,by rw[aK];rfl,trivial⟩⟩
     ·rintro a w ⟨aJ,aL,m,f⟩
      have ak:=rd2 aL ak
      have al:=rd1 aL al
      have am:=rd1 aL am
      have an:=rd2 aL an
      have ao:=rd2 aL ao
      refine Aa ?_
      rcases Af hd with⟨aM,hd⟩|⟨aM,hd⟩
      ·refine Al f Z aM ?_
       refine Ae ?_
       refine Ac f Z λa f=>Aa ?_
       refine Ap ?_
       have m:Mem W aJ w H:=Mem.drop (H':=[ib aq 38 [ab,ac,ad,ae],ib ap 29 [aa]]) m
       obtain rfl:=sj hd
       exact⟨[(.bool false)],f.g Z,f.d,_,[],(gt aw (gt az (gt aC (gt aF (gt aI aL))))),m,Z,Z⟩
      ·refine Ai f Z aM ?_
       refine Am ?_
       refine Ae ?_
       refine AW underlying29 Z sizeOf27 f Z λa f=>As 1 0 m Be f Z Z Z Z λa f=>AL underlying27 f Z Z ak λa f=>Ac f Z λa f=>Aa (Ag (Ae ?_))
       refine AW underlying38 Z sizeOf27 f Z λa f=>As 0 2 m Be f Z Z Z Z λa f=>AL underlying27 f Z Z an λa f=>Ab f Z λa f=>Aa ?_
       have⟨aN,aO,hd⟩:=bind_some hd
       refine AM (λa w=>∃q_98':Unit,aN= .inl q_98'∧∃(aP:GH),GLe aJ aP∧Fr a 159 [(2,(pb ap)),(3,(pb aq)),(5,(iv (ag.length:Int))),(6,(iv (af.length:Int)))]∧Mem W aP w (ib ap 29 [aa]::ib aq 38 [ab,ac,ad,ae]::H)) ?_ ?_
       ·refine Ak ?_
        have m:=m.fr 1
        refine AO (λaQ a w=>∃aR:Int,aR=aQ∧∃(aS:GH),GLe aJ aS∧Fr a 159 [(2,(pb ap)),(3,(pb aq)),(5,(iv (ag.length:Int))),(6,(iv (af.length:Int))),(56,ad),(57,(iv (ai.length:Int))),(58,(iv aR))]∧Mem W aS w (ib ap 29 [aa]::ib aq 38 [ab,ac,ad,ae]::H)) aO ⟨_,Z,_,gr,f.k Z,m⟩ ?_
        clear aO f m
        rintro aQ aT aU aV a w ⟨aR,rfl,aS,aW,f,m⟩
        have an:=rd2 aW an
        refine Ae ?_
        refine Ah f Z Z AR λa f=>Aa (Ag ?_)
        rcases Af aU with⟨aX,aU⟩|⟨aX,aU⟩
        ·refine Al f Z aX ?_
         refine Am ?_
         refine Ag (Ak (Ae ?_))
         have⟨aY,aZ,aU⟩:=bind_some aU
         refine A4 T27 f Z Z Z an aZ λa0 a1 a a2 a3 f=>Ax m Ba f Z Z a2 λa f=>Ac f Z λa f=>AD ?_
         refine Ab f Z λa f=>AL underlying35 f Z Z a3 λa f=>Ah f Z Z Cz λa f=>Ab f Z λa f=> ?_
         have⟨a4,a5,aU⟩:=bind_some aU
         refine Bx 5 (λa w=>∃a6,GLe aS a6∧Mem W a6 w (ib ap 29 [aa]::ib aq 38 [ab,ac,ad,ae]::H)∧Fr a 159 [(2,(pb ap)),(3,(pb aq)),(5,(iv (ag.length:Int))),(6,(iv (af.length:Int))),(8,a1),(56,ad),(57,(iv (ai.length:Int))),(58,(iv aR)),(62,a1),(63,(iv (aY.length:Int))),(64,(.bool (decide ((8:Int)<(aY.length:Int))))),(65,(.bool (decide ((8:Int)<(aY.length:Int))))),(70,(.bool a4))]) ?_ ?_
         ·rcases Af a5 with⟨a7,a5⟩|⟨a7,a5⟩
          ·refine Ar f a7 λa f=> ?_
           refine Ar f a7 λa f=>Ar f a7 λa f=>Ar f a7 λa f=>l_o f (AI (f.e Z) a7 (f.e Z)) λa f=> ?_
           obtain rfl:=sj a5
           exact⟨_,gr,m,f.k Z⟩
          ·refine Aq f a7 ?_
           refine Ab f Z λa f=>Aq f a7 ?_
           refine Ab f Z λa f=>Aq f a7 ?_
           have⟨a8,a9,a5⟩:=bind_some a5
           refine Bd f Z call71 (Wk.v m a3 a9) λba w bb m a f=>Aq f a7 ?_
           refine l_o f (By (f.e Z)) λa f=>l_o f (AJ (f.e Z) a7 (f.e Z)) λa f=> ?_
           obtain rfl:=sj a5
           exact⟨_,bb,m,f.k Z⟩
         ·rintro a w ⟨a6,bc,m,f⟩
          refine Aa ?_
          rcases Af aU with⟨bd,aU⟩|⟨bd,aU⟩
          ·refine Al f Z bd ?_
           refine Ae ?_
           refine Ac f Z λa f=>Aa ?_
           refine Ap ?_
           have m:Mem W a6 w H:=Mem.drop (H':=[ib ap 29 [aa],ib aq 38 [ab,ac,ad,ae]]) m
           obtain rfl:=sj aU
           obtain rfl:=aV _ rfl
           obtain rfl:=sj hd
           exact⟨[(.bool false)],f.g Z,f.d,_,[],(gt aw (gt az (gt aC (gt aF (gt aI (gt aL (gt aW bc))))))),m,Z,Z⟩
          ·refine Ai f Z bd ?_
           refine Am ?_
           refine Aj ?_
           refine Ah f Z Z AB λa f=>Ab f Z λa f=>Aa ?_
           obtain rfl:=sj aU
           exact⟨_,Z,_,Z,_,(gt aW bc),f.k Z,m⟩
        ·refine Ai f Z aX ?_
         refine AG Z ?_
         obtain rfl:=sj aU
         obtain rfl:=aV _ rfl
         exact⟨_,Z,_,aW,f.k Z,m⟩
       ·rintro a w ⟨_,rfl,aP,be,f,m⟩
        have ak:=rd2 be ak
        have al:=rd1 be al
        have am:=rd1 be am
        have an:=rd2 be an
        have ao:=rd2 be ao
        refine Ag ?_
        have⟨bf,bg,hd⟩:=bind_some hd
        refine AM (λa w=>∃bh:LI,∃bi:LI,∃bj:LI,(bh,bi,bj)=bf∧∃(bk:GH) (bl:Value) (bm:Itm) (bn:Value) (bo:Itm) (bp:Value) (bq:Itm),GLe aP bk∧Fr a 159 [(2,(pb ap)),(3,(pb aq)),(5,(iv (ag.length:Int))),(6,(iv (af.length:Int))),(9,bl),(10,bn),(11,bp)]∧Mem W bk w (ib ap 29 [aa]::ib aq 38 [ab,ac,ad,ae]::bm::bo::bq::H)∧Ow (RI .u32) 69 bk bm bl bh∧Ow R0 3 bk bo bn bi∧Ow R0 3 bk bq bp bj) ?_ ?_
        ·refine Bf 9 AU (by kernel_rfl) m ?_
         refine Bt 0 9 underlying38 Z sizeOf27 Z f Z λa f=>Br 1 9 1 Be Z Z Z f Z λa f=>An 3 9 Z f Z λa f=>An 5 9 Z f Z λa f=>q_three (i:=2) (j:=4) (k:=6) (l1:= #[true,true,true,true,false,true,false,false,false,false]) (l2:= #[true,true,false,true,true,true,false,false,false,false]) (l3:= #[true,true,false,true,false,true,true,false,false,false]) Z Z Z (by kernel_rfl) Z Z Z ?_ ?_ ?_
         ·intro br w bs m bt bt
          have an:=rd2 bs an
          have⟨bu,bv,bg⟩:=bind_some bg
          refine AX f Z call26 (Wk.l m an bv) λbw bx bz w bA m bB a f=> ?_
          obtain⟨bC,bD,rfl,rfl,bE⟩:=bB
          refine Aa ?_
          refine bt bx [bD] _ _ bA m ?_
          refine q_p 7 9 Z f (λ_=>Bs (f.e Z)) λa f=>EJ (i:=4) (j:=6) (l1:= #[true,true,true,true,true,true,false,true,false,false]) (l2:= #[true,true,true,true,false,true,true,true,false,false]) Z Z (by kernel_rfl) Z Z ?_ ?_
          ·intro bF w bG m bH bH
           have bE:=od1 bG bE
           have⟨bI,bJ,bg⟩:=bind_some bg
           refine Co (R:=R0) m T89 Z (by decide) Z f Z Z Z bJ λbK bL w a m bM f=>Aa ?_
           refine bH bF [bK,bD] _ _ gr m ?_
           refine q_p 8 9 Z f (λ_=>Bs (f.e Z)) λa f=>BC 6 Z λbN w bO m bP bP=> ?_
           have bM:=od1 bO bM
           have bE:=od1 bO bE
           have⟨bQ,bR,bg⟩:=bind_some bg
           refine Co (R:=R0) m T89 Z (by decide) Z f Z Z Z bR λbS bT w a m bU f=>Aa ?_
           refine bP bN [bS,bK,bD] _ _ gr m ?_
           refine A2 λbV w bW m=> ?_
           have bU:=od1 bW bU
           have bM:=od1 bW bM
           have bE:=od1 bW bE
           refine Ac f Z λa f=>Aa ?_
           have m:=m.fr 1
           have m:=m.fr 2
           have m:Mem W bV w (ib aq 38 [ab,ac,ad,ae]::bD::bK::bS::ib ap 29 [aa]::H):=m.fr 4
           have m:Mem W bV w (ib ap 29 [aa]::ib aq 38 [ab,ac,ad,ae]::bD::bK::bS::H):=m.fr 4
           obtain rfl:=sj bg
           exact⟨_,_,_,Z,_,bC,bD,bL,bK,bT,bS,(gt bs (gt bA (gt bG (gt bO bW)))),f.k Z,m,bE,bM,bU⟩
          ·intro bN w bO m bP bP
           have⟨bI,bJ,bg⟩:=bind_some bg
           have⟨bQ,bR,bg⟩:=bind_some bg
           have bE:=od1 bO bE
           refine Co (R:=R0) m T89 Z (by decide) Z f Z Z Z bR λbS bT w a m bU f=>Aa ?_
           refine bP bN [bS,bD] _ _ gr m ?_
           refine BC 4 Z λbF w bG m bH bH=> ?_
           have bU:=od1 bG bU
           have bE:=od1 bG bE
           refine Co (R:=R0) m T89 Z (by decide) Z f Z Z Z bJ λbK bL w a m bM f=>Aa ?_
           refine bH bF [bK,bS,bD] _ _ gr m ?_
           refine q_p 8 9 Z f (λ_=>Bs (f.e Z)) λa f=>A2 λbV w bW m=> ?_
           have bM:=od1 bW bM
           have bU:=od1 bW bU
           have bE:=od1 bW bE
           refine Ac f Z λa f=>Aa ?_
           have m:=m.fr 2
           have m:=m.fr 4
           have m:Mem W bV w (ib ap 29 [aa]::ib aq 38 [ab,ac,ad,ae]::bD::bK::bS::H):=m.fr 4
           obtain rfl:=sj bg
           exact⟨_,_,_,Z,_,bC,bD,bL,bK,bT,bS,(gt bs (gt bA (gt bO (gt bG bW)))),f.k Z,m,bE,bM,bU⟩
         ·intro bF w bG m bH bH
          have⟨bu,bv,bg⟩:=bind_some bg
          have⟨bI,bJ,bg⟩:=bind_some bg
          have⟨bQ,bR,bg⟩:=bind_some bg
          have an:=rd2 bG an
          refine Co (R:=R0) m T89 Z (by decide) Z f Z Z Z bJ λbK bL w a m bM f=>Aa ?_
          refine bH bF [bK] _ _ gr m ?_
          refine EJ (i:=2) (j:=6) (l1:= #[true,true,true,true,true,true,false,false,false,false]) (l2:= #[true,true,false,true,true,true,true,false,false,false]) Z Z (by kernel_rfl) Z Z ?_ ?_
          ·intro br w bs m bt bt
           have an:=rd2 bs an
           have bM:=od1 bs bM
           refine AX f Z call26 (Wk.l m an bv) λbw bx bz w bA m bB a f=> ?_
           obtain⟨bC,bD,rfl,rfl,bE⟩:=bB
           have bM:=od1 bA bM
           refine Aa ?_
           refine bt bx [bD,bK] _ _ bA m ?_
           refine q_p 7 9 Z f (λ_=>Bs (f.e Z)) λa f=>q_p 8 9 Z f (λ_=>Bs (f.e Z)) λa f=>BC 6 Z λbN w bO m bP bP=> ?_
           have bE:=od1 bO bE
           have bM:=od1 bO bM
           refine Co (R:=R0) m T89 Z (by decide) Z f Z Z Z bR λbS bT w a m bU f=>Aa ?_
           refine bP bN [bS,bD,bK] _ _ gr m ?_
           refine A2 λbV w bW m=> ?_
           have bU:=od1 bW bU
           have bE:=od1 bW bE
           have bM:=od1 bW bM
           refine Ac f Z λa f=>Aa ?_
           have m:=m.fr 2
           have m:=m.fr 2
           have m:Mem W bV w (ib aq 38 [ab,ac,ad,ae]::bD::bK::bS::ib ap 29 [aa]::H):=m.fr 4
           have m:Mem W bV w (ib ap 29 [aa]::ib aq 38 [ab,ac,ad,ae]::bD::bK::bS::H):=m.fr 4
           obtain rfl:=sj bg
           exact⟨_,_,_,Z,_,bC,bD,bL,bK,bT,bS,(gt bG (gt bs (gt bA (gt bO bW)))),f.k Z,m,bE,bM,bU⟩
          ·intro bN w bO m bP bP
           have an:=rd2 bO an
           have bM:=od1 bO bM
           refine Co (R:=R0) m T89 Z (by decide) Z f Z Z Z bR λbS bT w a m bU f=>Aa ?_
           refine bP bN [bS,bK] _ _ gr m ?_
           refine BC 2 Z λbr w bs m bt bt=> ?_
           have an:=rd2 bs an
           have bU:=od1 bs bU
           have bM:=od1 bs bM
           refine AX f Z call26 (Wk.l m an bv) λbw bx bz w bA m bB a f=> ?_
           obtain⟨bC,bD,rfl,rfl,bE⟩:=bB
           have bU:=od1 bA bU
           have bM:=od1 bA bM
           refine Aa ?_
           refine bt bx [bD,bS,bK] _ _ bA m ?_
           refine q_p 7 9 Z f (λ_=>Bs (f.e Z)) λa f=>q_p 8 9 Z f (λ_=>Bs (f.e Z)) λa f=>A2 λbV w bW m=> ?_
           have bE:=od1 bW bE
           have bU:=od1 bW bU
           have bM:=od1 bW bM
           refine Ac f Z λa f=>Aa ?_
           have m:=m.fr 2
           have m:=m.fr 1
           have m:Mem W bV w (ib aq 38 [ab,ac,ad,ae]::bD::bK::bS::ib ap 29 [aa]::H):=m.fr 4
           have m:Mem W bV w (ib ap 29 [aa]::ib aq 38 [ab,ac,ad,ae]::bD::bK::bS::H):=m.fr 4
           obtain rfl:=sj bg
           exact⟨_,_,_,Z,_,bC,bD,bL,bK,bT,bS,(gt bG (gt bO (gt bs (gt bA bW)))),f.k Z,m,bE,bM,bU⟩
         ·intro bN w bO m bP bP
          have⟨bu,bv,bg⟩:=bind_some bg
          have⟨bI,bJ,bg⟩:=bind_some bg
          have⟨bQ,bR,bg⟩:=bind_some bg
          have an:=rd2 bO an
          refine Co (R:=R0) m T89 Z (by decide) Z f Z Z Z bR λbS bT w a m bU f=>Aa ?_
          refine bP bN [bS] _ _ gr m ?_
          refine EJ (i:=2) (j:=4) (l1:= #[true,true,true,true,false,true,true,false,false,false]) (l2:= #[true,true,false,true,true,true,true,false,false,false]) Z Z (by kernel_rfl) Z Z ?_ ?_
          ·intro br w bs m bt bt
           have an:=rd2 bs an
           have bU:=od1 bs bU
           refine AX f Z call26 (Wk.l m an bv) λbw bx bz w bA m bB a f=> ?_
           obtain⟨bC,bD,rfl,rfl,bE⟩:=bB
           have bU:=od1 bA bU
           refine Aa ?_
           refine bt bx [bD,bS] _ _ bA m ?_
           refine q_p 7 9 Z f (λ_=>Bs (f.e Z)) λa f=>BC 4 Z λbF w bG m bH bH=> ?_
           have bE:=od1 bG bE
           have bU:=od1 bG bU
           refine Co (R:=R0) m T89 Z (by decide) Z f Z Z Z bJ λbK bL w a m bM f=>Aa ?_
           refine bH bF [bK,bD,bS] _ _ gr m ?_
           refine q_p 8 9 Z f (λ_=>Bs (f.e Z)) λa f=>A2 λbV w bW m=> ?_
           have bM:=od1 bW bM
           have bE:=od1 bW bE
           have bU:=od1 bW bU
           refine Ac f Z λa f=>Aa ?_
           have m:=m.fr 1
           have m:=m.fr 4
           have m:Mem W bV w (ib ap 29 [aa]::ib aq 38 [ab,ac,ad,ae]::bD::bK::bS::H):=m.fr 4
           obtain rfl:=sj bg
           exact⟨_,_,_,Z,_,bC,bD,bL,bK,bT,bS,(gt bO (gt bs (gt bA (gt bG bW)))),f.k Z,m,bE,bM,bU⟩
          ·intro bF w bG m bH bH
           have an:=rd2 bG an
           have bU:=od1 bG bU
           refine Co (R:=R0) m T89 Z (by decide) Z f Z Z Z bJ λbK bL w a m bM f=>Aa ?_
           refine bH bF [bK,bS] _ _ gr m ?_
           refine BC 2 Z λbr w bs m bt bt=> ?_
           have an:=rd2 bs an
           have bM:=od1 bs bM
           have bU:=od1 bs bU
           refine AX f Z call26 (Wk.l m an bv) λbw bx bz w bA m bB a f=> ?_
           obtain⟨bC,bD,rfl,rfl,bE⟩:=bB
           have bM:=od1 bA bM
           have bU:=od1 bA bU
           refine Aa ?_
           refine bt bx [bD,bK,bS] _ _ bA m ?_
           refine q_p 7 9 Z f (λ_=>Bs (f.e Z)) λa f=>q_p 8 9 Z f (λ_=>Bs (f.e Z)) λa f=>A2 λbV w bW m=> ?_
           have bE:=od1 bW bE
           have bM:=od1 bW bM
           have bU:=od1 bW bU
           refine Ac f Z λa f=>Aa ?_
           have m:=m.fr 4
           have m:Mem W bV w (ib ap 29 [aa]::ib aq 38 [ab,ac,ad,ae]::bD::bK::bS::H):=m.fr 4
           obtain rfl:=sj bg
           exact⟨_,_,_,Z,_,bC,bD,bL,bK,bT,bS,(gt bO (gt bG (gt bs (gt bA bW)))),f.k Z,m,bE,bM,bU⟩
        ·rintro a w ⟨bh,bi,bj,rfl,bk,bl,bm,bn,bo,bp,bq,bX,f,m,bY,bZ,b0⟩
         have ak:=rd2 bX ak
         have al:=rd1 bX al
         have am:=rd1 bX am
         have an:=rd2 bX an
         have ao:=rd2 bX ao
         refine Ag (Ae ?_)
         refine Ab f Z λa f=>Ab f Z λa f=>Aa ?_
         have⟨b1,b2,hd⟩:=bind_some hd
         refine AM (λa w=>∃q_554':LI×LI,b1= .inl q_554'∧∃b3:LI,∃b4:LI,(b3,b4)=q_554'∧∃(b5:GH) (b6:Itm) (b7:Itm),GLe bk b5∧Fr a 159 [(2,(pb ap)),(5,(iv (ag.length:Int))),(9,bl),(10,bn),(11,bp)]∧Mem W b5 w (ib ap 29 [aa]::bm::b6::b7::H)∧Ow R0 3 b5 b6 bn b3∧Ow R0 3 b5 b7 bp b4) ?_ ?_
         ·refine Ak ?_
          refine AO (λb8 a w=>∃b9:LI,∃ca:LI,∃cb:Int,(b9,ca,cb)=b8∧∃(cc:GH) (cd:Itm) (ce:Itm),GLe bk cc∧Fr a 159 [(2,(pb ap)),(3,(pb aq)),(5,(iv (ag.length:Int))),(6,(iv (af.length:Int))),(9,bl),(10,bn),(11,bp),(79,(iv (ag.length:Int))),(80,(iv cb))]∧Mem W cc w (ib ap 29 [aa]::ib aq 38 [ab,ac,ad,ae]::bm::cd::ce::H)∧Ow R0 3 cc cd bn b9∧Ow R0 3 cc ce bp ca) b2 ⟨_,_,_,Z,_,bo,bq,gr,f.k Z,m,bZ,b0⟩ ?_
          clear b2 f m
          rintro b8 cf cg ch a w ⟨b9,ca,cb,rfl,cc,cd,ce,ci,f,m,cj,ck⟩
          have al:=rd1 ci al
          have am:=rd1 ci am
          have an:=rd2 ci an
          have ao:=rd2 ci ao
          have bY:=od1 ci bY
          refine Ae ?_
          refine Ah f Z Z AR λa f=>Aa (Ag ?_)
          rcases Af cg with⟨cl,cg⟩|⟨cl,cg⟩
          ·refine Al f Z cl ?_
           refine Am ?_
           refine Ag (Ak (Ae ?_))
           refine Ab f Z λa f=>Ac f Z λa f=>Aa (Ag (Ae ?_))
           refine AC 1 0 (ds:=[ab,ac,ad,ae]) m DJ f Z Z Z Z Z λa f=>Ab f Z λa f=>Ab f Z λa f=>Ab f Z λa f=> ?_
           have⟨cm,cn,cg⟩:=bind_some cg
           refine AX f Z call83 (Ow.lendCall (RI.mono _) 2 bY m Z (λco cp m cq=>Wk.m m (rd1 cp al) (rd1 cp am) (rd2 cp an) (rd2 cp ao) cq cn) (λ_ _ _ _ h=>h)) λcr ct cu w cv m cw a f=> ?_
           obtain⟨rfl,rfl⟩:=cw
           have al:=rd1 cv al
           have am:=rd1 cv am
           have ao:=rd2 cv ao
           have cj:=od1 cv cj
           have ck:=od1 cv ck
           refine l_o f (By (f.e Z)) λa f=>Aa ?_
           rcases Af cg with⟨cx,cg⟩|⟨cx,cg⟩
           ·refine Al f Z cx ?_
            refine Ae ?_
            refine Ac f Z λa f=>Aa ?_
            refine Ap ?_
            have m:Mem W ct w H:=Mem.drop (H':=[ib ap 29 [aa],ib aq 38 [ab,ac,ad,ae],bm,cd,ce]) m
            obtain rfl:=sj cg
            obtain rfl:=ch _ rfl
            obtain rfl:=sj hd
            exact⟨[(.bool false)],f.g Z,f.d,_,[],(gt aw (gt az (gt aC (gt aF (gt aI (gt aL (gt be (gt bX (gt ci cv))))))))),m,Z,Z⟩
           ·refine Ai f Z cx ?_
            refine Am ?_
            refine Ag (Ae ?_)
            refine AW underlying38 Z sizeOf27 f Z λa f=>As 1 3 m Be f Z Z Z Z λa f=>Ab f Z λa f=> ?_
            have⟨cy,cz,cg⟩:=bind_some cg
            refine A4 T27 f Z Z Z ao cz λcA cB a cC cD f=>Ax m Ba f Z Z cC λa f=>AL underlying35 f Z Z cD λa f=>Ab f Z λa f=>Aa ?_
            have⟨cE,cF,cg⟩:=bind_some cg
            refine AM (λa w=>∃cG:LI,cG=cE∧∃(cH:GH) (cI:Itm),GLe ct cH∧Fr a 159 [(2,(pb ap)),(3,(pb aq)),(5,(iv (ag.length:Int))),(6,(iv (af.length:Int))),(9,bl),(10,bn),(11,bp),(12,(iv cb)),(79,(iv (ag.length:Int))),(80,(iv cb))]∧Mem W cH w (ib ap 29 [aa]::ib aq 38 [ab,ac,ad,ae]::bm::cI::ce::H)∧Ow R0 3 cH cI bn cG) ?_ ?_
            ·refine Ak ?_
             refine AO (λcJ a w=>∃cK:LI,∃cL:Int,(cK,cL)=cJ∧∃(cM:GH) (cN:Itm),GLe ct cM∧Fr a 159 [(2,(pb ap)),(3,(pb aq)),(5,(iv (ag.length:Int))),(6,(iv (af.length:Int))),(9,bl),(10,bn),(11,bp),(12,(iv cb)),(79,(iv (ag.length:Int))),(80,(iv cb)),(93,cB),(94,(iv (cy.length:Int))),(95,(iv cL))]∧Mem W cM w (ib ap 29 [aa]::ib aq 38 [ab,ac,ad,ae]::bm::cN::ce::H)∧Ow R0 3 cM cN bn cK) cF ⟨_,_,Z,_,cd,gr,f.k Z,m,cj⟩ ?_
             clear cF f m
             rintro cJ cO cP cQ a w ⟨cK,cL,rfl,cM,cN,cR,f,m,cS⟩
             have cD:=rd1 cR cD
             refine Ae ?_
             refine Ah f Z Z AR λa f=>Aa (Ag ?_)
             rcases Af cP with⟨cT,cP⟩|⟨cT,cP⟩
             ·refine Al f Z cT ?_
              refine Am ?_
              refine Ag (Ak (Ae ?_))
              have⟨cU,cV,cP⟩:=bind_some cP
              refine A4 T35 f Z Z Z cD cV λcW cX a cY cZ f=> ?_
              subst cZ
              refine Ax m Pl2 f Z Z cY λa f=>Ac f Z λa f=>Aa (Aj ?_)
              refine Ab f Z λa f=>Ab f Z λa f=> ?_
              have⟨c0,c1,cP⟩:=bind_some cP
              refine Bi 3 m cS Z T89 f Z Z Z c1 λc2 a c3 f=>Bk 3 m cS Z Pl3 f Z Z c3 c1 λc4 a c5 f=> ?_
              subst c5
              refine Ah f Z Z AB λa f=> ?_
              have⟨c6,c7,cP⟩:=bind_some cP
              refine Bi 3 m cS Z T89 f Z Z Z c7 λc8 a c9 f=>BN 3 m cS Z sizeOf3 f Z Z c9 c7 Z Z Z λda w m db=>Aa (Aj ?_)
              refine Ah f Z Z AB λa f=>Ab f Z λa f=>Aa ?_
              obtain rfl:=sj cP
              exact⟨_,Z,_,_,Z,_,da,cR,f.k Z,m,db⟩
             ·refine Ai f Z cT ?_
              refine AG Z ?_
              obtain rfl:=sj cP
              obtain rfl:=cQ _ rfl
              exact⟨_,Z,_,cN,cR,f.k Z,m,cS⟩
            ·rintro a w ⟨cG,rfl,cH,cI,dc,f,m,dd⟩
             have al:=rd1 dc al
             have am:=rd1 dc am
             have ck:=od1 dc ck
             refine Ae ?_
             refine AW underlying38 Z sizeOf35 f Z λa f=>As 1 0 m Ba f Z Z Z Z λa f=>Ab f Z λa f=> ?_
             have⟨de,df,cg⟩:=bind_some cg
             refine A4 T35 f Z Z Z al df λdg dh a di dj f=> ?_
             subst dj
             refine Ax m Pl2 f Z Z di λa f=>Ah f Z Z Bj λa f=>Aa ?_
             rcases Af cg with⟨dk,cg⟩|⟨dk,cg⟩
             ·refine Al f Z dk ?_
              refine Aj ?_
              refine Ab f Z λa f=>AW underlying38 Z sizeOf35 f Z λa f=>As 1 1 m Ba f Z Z Z Z λa f=>Ab f Z λa f=> ?_
              have⟨dl,dm,cg⟩:=bind_some cg
              refine A4 T35 f Z Z Z am dm λdn dp a dq dr f=> ?_
              subst dr
              refine Ax m Pl2 f Z Z dq λa f=> ?_
              have⟨dt,du,cg⟩:=bind_some cg
              refine Bi 4 m ck Z T89 f Z Z Z du λdv a dw f=>Bk 4 m ck Z Pl3 f Z Z dw du λdx a dy f=> ?_
              subst dy
              refine Ah f Z Z AB λa f=> ?_
              have⟨dz,dA,cg⟩:=bind_some cg
              refine Bi 4 m ck Z T89 f Z Z Z dA λdB a dC f=>BN 4 m ck Z sizeOf3 f Z Z dC dA Z Z Z λdD w m dE=>Aa (Aj ?_)
              refine Ah f Z Z AB λa f=>Ab f Z λa f=>Aa ?_
              obtain rfl:=sj cg
              exact⟨_,Z,_,_,_,Z,_,cI,dD,(gt ci (gt cv dc)),f.k Z,m,dd,dE⟩
             ·refine Ai f Z dk ?_
              refine Am ?_
              refine Aj ?_
              refine Ah f Z Z AB λa f=>Ab f Z λa f=>Aa ?_
              obtain rfl:=sj cg
              exact⟨_,Z,_,_,_,Z,_,cI,ce,(gt ci (gt cv dc)),f.k Z,m,dd,ck⟩
          ·refine Ai f Z cl ?_
           refine AG Z ?_
           have m:=m.fr 4
           have m:=m.fr 4
           have m:Mem W cc w (bm::cd::ce::ib ap 29 [aa]::ib aq 38 [ab,ac,ad,ae]::H):=m.fr 4
           have m:=m.fr 3
           have m:=m.eraseAt 4
           obtain rfl:=sj cg
           obtain rfl:=ch _ rfl
           exact⟨_,Z,_,_,Z,_,cd,ce,ci,f.k Z,m,cj,ck⟩
         ·rintro a w ⟨_,rfl,b3,b4,rfl,b5,b6,b7,dF,f,m,dG,dH⟩
          have ak:=rd2 dF ak
          have bY:=od1 dF bY
          refine Ag (Ae ?_)
          refine Ab f Z λa f=>B4 2 m dG Z underlying89 f Z Z λa f=>Ab f Z λa f=>Aa ?_
          have⟨dI,dJ,hd⟩:=bind_some hd
          refine AM (λa w=>∃q_883':Unit,dI= .inl q_883'∧∃(dK:GH),GLe b5 dK∧Fr a 159 [(2,(pb ap)),(5,(iv (ag.length:Int))),(9,bl),(11,bp)]∧Mem W dK w (ib ap 29 [aa]::bm::b7::H)) ?_ ?_
          ·refine Ak ?_
           have m:=m.fr 3
           have m:=m.fr 2
           have m:=m.fr 2
           refine AO (λdL a w=>∃dM:Int,dM=dL∧∃(dN:GH),GLe b5 dN∧Fr a 159 [(2,(pb ap)),(5,(iv (ag.length:Int))),(9,bl),(11,bp),(123,bn),(124,(iv (b3.length:Int))),(125,(iv dM))]∧Mem W dN w (ib ap 29 [aa]::bm::b7::b6::H)) dJ ⟨_,Z,_,gr,f.k Z,m⟩ ?_
           clear dJ f m
           rintro dL dO dP dQ a w ⟨dM,rfl,dN,dR,f,m⟩
           have dG:=od1 dR dG
           refine Ae ?_
           refine Ah f Z Z AR λa f=>Aa (Ag ?_)
           rcases Af dP with⟨dS,dP⟩|⟨dS,dP⟩
           ·refine Al f Z dS ?_
            refine Am ?_
            refine Ag (Ak (Ae ?_))
            refine Ab f Z λa f=> ?_
            have⟨dT,dU,dP⟩:=bind_some dP
            refine Bi 3 m dG Z T89 f Z Z Z dU λdV a dW f=>Bk 3 m dG Z Pl3 f Z Z dW dU λdX a dY f=> ?_
            subst dY
            refine Ac f Z λa f=>Ac f Z λa f=>AD ?_
            refine Ab f Z λa f=>Ah f Z Z Bj λa f=>Ab f Z λa f=>Ab f Z λa f=>Ah f Z Z Ck λa f=>Ah f Z Z AR λa f=>l_o f (r_bool_neq (f.e Z) (f.e Z) underlying4) λa f=>Ab f Z λa f=> ?_
            refine Bx 3 (λa w=>∃dZ,GLe dN dZ∧Mem W dZ w (ib ap 29 [aa]::bm::b7::b6::H)∧Fr a 159 [(2,(pb ap)),(5,(iv (ag.length:Int))),(9,bl),(11,bp),(15,(iv dM)),(16,(iv dT)),(123,bn),(124,(iv (b3.length:Int))),(125,(iv dM)),(130,(iv dT)),(131,(.bool (dT==1))),(132,(iv dM)),(133,(iv (ag.length:Int))),(134,(iv (i64.wrap ((ag.length:Int)-1)))),(135,(.bool (decide (dM<(i64.wrap ((ag.length:Int)-1)))))),(136,(.bool ((dT==1) !=(decide (dM<(i64.wrap ((ag.length:Int)-1))))))),(137,(.bool ((dT==1) !=(decide (dM<(i64.wrap ((ag.length:Int)-1))))))),(140,(.bool (((dT==1) !=(decide (dM<(i64.wrap ((ag.length:Int)-1)))))||(decide ((1:Int)<dT)))))]) ?_ ?_
            ·rcases Bool.eq_false_or_eq_true ((dT==1) !=(decide (dM<(i64.wrap ((ag.length:Int)-1))))) with d0|d0
             ·refine Ar f d0 λa f=> ?_
              refine Ar f d0 λa f=>l_o f (AI (f.e Z) d0 (f.e Z)) λa f=> ?_
              exact⟨_,gr,m,f.weak ⟨Z,Z,Z,Z,Z,Z,Z,Z,Z,Z,Z,Z,Z,Z,Z,Z,Z,by rw[d0];rfl,trivial⟩⟩
             ·refine Aq f d0 ?_
              refine Ab f Z λa f=>Aq f d0 ?_
              refine Ah f Z Z Cz λa f=>l_o f (AJ (f.e Z) d0 (f.e Z)) λa f=> ?_
              exact⟨_,gr,m,f.weak ⟨Z,Z,Z,Z,Z,Z,Z,Z,Z,Z,Z,Z,Z,Z,Z,Z,Z,by rw[d0];rfl,trivial⟩⟩
            ·rintro a w ⟨dZ,d1,m,f⟩
             refine Aa ?_
             rcases Af dP with⟨d2,dP⟩|⟨d2,dP⟩
             ·refine Al f Z d2 ?_
              refine Ae ?_
              refine Ac f Z λa f=>Aa ?_
              refine Ap ?_
              have m:Mem W dZ w H:=Mem.drop (H':=[ib ap 29 [aa],bm,b7,b6]) m
              obtain rfl:=sj dP
              obtain rfl:=dQ _ rfl
              obtain rfl:=sj hd
              exact⟨[(.bool false)],f.g Z,f.d,_,[],(gt aw (gt az (gt aC (gt aF (gt aI (gt aL (gt be (gt bX (gt dF (gt dR d1)))))))))),m,Z,Z⟩
             ·refine Ai f Z d2 ?_
              refine Am ?_
              refine Aj ?_
              refine Ah f Z Z AB λa f=>Ab f Z λa f=>Aa ?_
              obtain rfl:=sj dP
              exact⟨_,Z,_,Z,_,(gt dR d1),f.k Z,m⟩
           ·refine Ai f Z dS ?_
            refine AG Z ?_
            have m:=m.eraseAt 3
            obtain rfl:=sj dP
            obtain rfl:=dQ _ rfl
            exact⟨_,Z,_,dR,f.k Z,m⟩
          ·rintro a w ⟨_,rfl,dK,d3,f,m⟩
           have ak:=rd2 d3 ak
           have bY:=od1 d3 bY
           have dH:=od1 d3 dH
           refine Ae ?_
           refine Ab f Z λa f=>Ab f Z λa f=>Ah f Z Z Ck λa f=> ?_
           have⟨d4,d5,hd⟩:=bind_some hd
           refine Bi 1 m bY Z T60 f Z Z Z d5 λd6 a d7 f=>Bk 1 m bY Z BM f Z Z d7 d5 λd8 a d9 f=> ?_
           subst d9
           refine Ah f Z Z Bj λa f=>Ab f Z λa f=> ?_
           have⟨ea,eb,hd⟩:=bind_some hd
           refine Bx 4 (λa w=>∃ec,GLe dK ec∧Mem W ec w (ib ap 29 [aa]::bm::b7::H)∧Fr a 159 [(2,(pb ap)),(5,(iv (ag.length:Int))),(9,bl),(11,bp),(142,bl),(143,(iv (ag.length:Int))),(144,(iv (i64.wrap ((ag.length:Int)-1)))),(145,d6),(146,(.int .u32 d4)),(147,(.bool (d4==0))),(148,(.bool (d4==0))),(152,(.bool ea))]) ?_ ?_
           ·rcases Af eb with⟨ed,eb⟩|⟨ed,eb⟩
            ·refine Aq f ed ?_
             refine Ab f Z λa f=>Aq f ed ?_
             have⟨ee,ef,eb⟩:=bind_some eb
             refine AX f Z call84 (Ow.lendCall (RI.mono _) 2 dH m Z (λeg eh m ei=>Wk.N0 m ei ef) (λ_ _ _ _ h=>h)) λej ek el w em m en a f=> ?_
             obtain⟨rfl,rfl⟩:=en
             refine Aq f ed ?_
             refine l_o f (By (f.e Z)) λa f=>l_o f (AI (f.e Z) ed (f.e Z)) λa f=> ?_
             obtain rfl:=sj eb
             exact⟨_,em,m,f.k Z⟩
            ·refine Ar f ed λa f=> ?_
             refine Ar f ed λa f=>Ar f ed λa f=>l_o f (AJ (f.e Z) ed (f.e Z)) λa f=> ?_
             obtain rfl:=sj eb
             exact⟨_,gr,m,f.k Z⟩
           ·rintro a w ⟨ec,eo,m,f⟩
            have ak:=rd2 eo ak
            have bY:=od1 eo bY
            refine Ab f Z λa f=> ?_
            have⟨ep,eq,hd⟩:=bind_some hd
            refine Bx 5 (λa w=>∃er,GLe ec er∧Mem W er w (ib ap 29 [aa]::bm::b7::H)∧Fr a 159 [(2,(pb ap)),(5,(iv (ag.length:Int))),(9,bl),(11,bp),(142,bl),(143,(iv (ag.length:Int))),(144,(iv (i64.wrap ((ag.length:Int)-1)))),(145,d6),(146,(.int .u32 d4)),(147,(.bool (d4==0))),(148,(.bool (d4==0))),(152,(.bool ea)),(153,(.bool ea)),(158,(.bool ep))]) ?_ ?_
            ·rcases Af eq with⟨es,eq⟩|⟨es,eq⟩
             ·refine Aq f es ?_
              refine AC 0 0 (ds:=[aa]) m Bv f Z Z Z Z Z λa f=>Aq f es ?_
              have⟨et,eu,eq⟩:=bind_some eq
              refine AX f Z call36 (Wk.u m ak eu) λev ew ex w ey m ez a f=> ?_
              obtain⟨eA,eB,rfl,rfl,eC⟩:=ez
              have bY:=od1 ey bY
              refine Aq f es ?_
              refine Ab f Z λa f=>Aq f es ?_
              have⟨eD,eE,eq⟩:=bind_some eq
              refine AX f Z call74 (Ow.lendCall (RI.mono _) 0 eC m Z (λeF eG m eH=>(Ow.lendCall (RI.mono _) 1 (od1 eG bY) m Z (λeI eJ m eK=>Wk.L m (rd1 eJ eH) eK eE) (λ_ _ _ _ h=>h))) (λ_ _ _ _ h=>h)) λeL eM eN w eO m eP a f=> ?_
              obtain⟨rfl,rfl⟩:=eP
              refine l_o f (AI (f.e Z) es (f.e Z)) λa f=> ?_
              obtain rfl:=sj eq
              have m:=m.fr 3
              have m:=m.fr 3
              have m:Mem W eM w (ib ap 29 [aa]::bm::b7::eB::H):=m.fr 3
              have m:=m.eraseAt 3
              exact⟨_,(gt ey eO),m,f.k Z⟩
             ·refine Ar f es λa f=> ?_
              refine Ar f es λa f=>Ar f es λa f=>Ar f es λa f=>l_o f (AJ (f.e Z) es (f.e Z)) λa f=> ?_
              obtain rfl:=sj eq
              exact⟨_,gr,m,f.k Z⟩
            ·rintro a w ⟨er,eQ,m,f⟩
             refine Ac f Z λa f=>Aa ?_
             refine Ap ?_
             have m:Mem W er w H:=Mem.drop (H':=[ib ap 29 [aa],bm,b7]) m
             obtain rfl:=sj hd
             exact⟨[(.bool ep)],f.g Z,f.d,_,[],(gt aw (gt az (gt aC (gt aF (gt aI (gt aL (gt be (gt bX (gt dF (gt d3 (gt eo eQ))))))))))),m,Z,Z⟩
theorem Wk.n0 {v0:Value}{x0:LI}(m:Mem W G w (H))(h0:R1 G v0 x0){y:Bool}(hd:D.n0 x0=some y):
  Calls prog 35 #[v0] w (Res W G H (λ_ Ho v=>Ho=[]∧v=(.bool y))):=by
 refine Au (args:=[v0]) (N:=6) [.tmp 2] func35 Z Z (lb Z) Z λa f=> ?_
 unfold D.n0 at hd
 refine Ae ?_
 refine Ac f Z λa f=>AD ?_
 refine Ab f Z λa f=>AL underlying35 f Z Z h0 λa f=>Ah f Z Z Cz λa f=>Ac f Z λa f=>Aa ?_
 refine Ap ?_
 obtain rfl:=sj hd
 exact⟨[(.bool (decide ((6:Int)<(x0.length:Int))))],f.g Z,f.d,_,[],gr,m,Z,Z⟩
theorem Wk.P0 {aa ab x1 x2 x3:Int}(m:Mem W G w (H)){y:Bw}(hd:D.P0 aa ab x1 x2 x3=some y):
  Calls prog 39 #[(.agg #[(.int .u32 aa),(.int .u32 ab)]),(iv x1),(.int .u32 x2),(iv x3)] w (Res W G H (λG' Ho v=>∃r0:Value,Ho=[]∧r0=v∧RMf eW2 G' r0 y)):=by
 refine Au (args:=[(.agg #[(.int .u32 aa),(.int .u32 ab)]),(iv x1),(.int .u32 x2),(iv x3)]) (N:=34) [.tmp 8] func39 Z Z (lb Z) Z λa f=> ?_
 unfold D.P0 at hd
 refine Ae ?_
 refine Bo (cs:=[(.int .u32 aa),(.int .u32 ab)]) m f Z Z Z λac w a m f=>Ac f Z λa f=>Aa (Ag (Ae ?_))
 refine AW underlying75 Z sizeOf69 f Z λa f=>As 0 1 m BM f Z Z Z Z λa f=>Ab f Z λa f=> ?_
 have⟨ad,ae,hd⟩:=bind_some hd
 refine Bd f Z call40 (Wk.c m ae) λaf w ag m a f=>l_o f (By (f.e Z)) λa f=>Aa ?_
 rcases Af hd with⟨ah,hd⟩|⟨ah,hd⟩
 ·refine Al f Z ah ?_
  refine Ae ?_
  refine Ac f Z λa f=>Aa ?_
  refine Ap ?_
  have ai:=RMf.nil eW2 af
  have m:Mem W af w H:=Mem.drop (H':=[ib ac 75 [(.int .u32 aa),(.int .u32 ab)]]) m
  obtain rfl:=sj hd
  exact⟨[(.map none)],f.g Z,f.d,_,[],ag,m,_,Z,Z,ai⟩
 ·refine Ai f Z ah ?_
  refine Am ?_
  refine Ag (Ae ?_)
  refine AW underlying75 Z sizeOf69 f Z λa f=>As 0 0 m BM f Z Z Z Z λa f=>Ab f Z λa f=> ?_
  have⟨aj,ak,hd⟩:=bind_some hd
  refine Bd f Z call40 (Wk.c m ak) λal w am m a f=>Aa ?_
  have⟨an,ao,hd⟩:=bind_some hd
  refine AM (λa w=>∃ap:Int,ap=an∧∃(aq:GH),GLe al aq∧Fr a 34 [(1,(iv x1)),(3,(iv ap)),(4,(pb ac))]∧Mem W aq w (ib ac 75 [(.int .u32 aa),(.int .u32 ab)]::H)) ?_ ?_
  ·rcases Af ao with⟨ar,ao⟩|⟨ar,ao⟩
   ·refine Al f Z ar ?_
    refine Aj ?_
    refine Ab f Z λa f=>Ah f Z Z AB λa f=>Ac f Z λa f=>Aa ?_
    obtain rfl:=sj ao
    exact⟨_,Z,_,gr,f.k Z,m⟩
   ·refine Ai f Z ar ?_
    refine Am ?_
    obtain rfl:=sj ao
    exact⟨_,Z,_,gr,f.k Z,m⟩
  ·rintro a w ⟨ap,rfl,aq,au,f,m⟩
   refine Ag ?_
   refine Bf 13 AU (by kernel_rfl) m ?_
   refine Bt 1 13 underlying75 Z sizeOf69 Z f Z λa f=>Br 2 13 0 BM Z Z Z f Z λa f=>An 3 13 Z f Z λa f=> ?_
   have⟨av,aw,hd⟩:=bind_some hd
   refine BJ (i:=4) 13 Z (by kernel_rfl) Z f Z Z Z call38 (λ_ _ w ax m=>Wk.a m aw) λa f=>q_p 5 13 Z f (λ_=>Bn (f.e Z) (f.e Z) CN) λa f=>Bt 6 13 underlying75 Z sizeOf69 Z f Z λa f=>Br 7 13 0 BM Z Z Z f Z λa f=>An 8 13 Z f Z λa f=> ?_
   have⟨ay,az,hd⟩:=bind_some hd
   refine BJ (i:=9) 13 Z (by kernel_rfl) Z f Z Z Z call38 (λ_ _ w aA m=>Wk.a m az) λa f=>q_p 10 13 Z f (λ_=>Bn (f.e Z) (f.e Z) CN) λa f=> ?_
   have aB:∀w,(Instr.build 75 #[(0,(.int .u32 (iandNot .u32 aa av))),(1,(.int .u32 (iandNot .u32 ab ay)))]).run prog w= .ok (.agg #[(.int .u32 (iandNot .u32 aa av)),(.int .u32 (iandNot .u32 ab ay))]) w:=by intro w;simp[Instr.build,Instr.fill,BX,BQ,BD,BI,BA,BW,BP]
   refine q_p 11 13 Z f (λ_=>Fl f Z aB) λa f=>An 12 13 Z f Z λa f=>BC 0 Z λaC w aD m aE aE=>D8 eW2 m f Z λaF aG w a m aH f=>Aa ?_
   refine aE aC [aF] _ _ gr m ?_
   refine A2 λaI w aJ m=> ?_
   have aH:=OwMf.mono mfT aJ aH
   refine FQ Mf75 (i:=((iandNot .u32 aa av),(iandNot .u32 ab ay))) 0 m aH Z underlying79 f Z Z Z λaK w m aL=>Ab f Z λa f=>Ac f Z λa f=>Aa ?_
   refine Ap ?_
   obtain⟨aM,aN,m,aO⟩:=OwMf.stamp mfT aL m
   have m:Mem W aM w H:=Mem.drop (H':=[ib ac 75 [(.int .u32 aa),(.int .u32 ab)]]) m
   obtain rfl:=sj hd
   exact⟨[aG],f.g Z,f.d,_,[],(gt ag (gt am (gt au (gt aD (gt aJ aN))))),m,_,Z,Z,aO⟩
theorem Wk.U0 {aa ab ac ad:Int}(m:Mem W G w (H)){y:Int×Int×Bool}(hd:D.U0 aa ab ac ad=some y):
  Calls prog 41 #[(.agg #[(.int .u32 aa),(.int .u32 ab)]),(.agg #[(.int .u32 ac),(.int .u32 ad)])] w (Res W G H (λ_ Ho v=>Ho=[]∧v= .tuple #[(.agg #[(.int .u32 y.1),(.int .u32 y.2.1)]),(.bool y.2.2)])):=by
 refine Au (args:=[(.agg #[(.int .u32 aa),(.int .u32 ab)]),(.agg #[(.int .u32 ac),(.int .u32 ad)])]) (N:=19) [.cell 4 75,.tmp 5] func41 Z Z (lb Z) Z λa f=> ?_
 unfold D.U0 at hd
 refine Ae ?_
 refine Bo (cs:=[(.int .u32 aa),(.int .u32 ab)]) m f Z Z Z λae w a m f=>Bo (cs:=[(.int .u32 ac),(.int .u32 ad)]) m f Z Z Z λaf w a m f=>Bp (cs:=[(.int .u32 0),(.int .u32 0)]) zeroValue75 m f Z Z λag w a m f=>Ac f Z λa f=>Aa (Ag ?_)
 refine E8 [ib ag 75 [(.int .u32 0),(.int .u32 0)]] (ib af 75 [(.int .u32 ac),(.int .u32 ad)]::ib ae 75 [(.int .u32 aa),(.int .u32 ab)]::H) 14 AU (by kernel_rfl) m ?_
 refine Bt 0 14 underlying75 Z sizeOf69 Z f Z λa f=>Br 1 14 1 BM Z Z Z f Z λa f=>Bt 2 14 underlying75 Z sizeOf69 Z f Z λa f=>Br 3 14 1 BM Z Z Z f Z λa f=>Bt 4 14 underlying75 Z sizeOf69 Z f Z λa f=>Br 5 14 0 BM Z Z Z f Z λa f=>q_p 6 14 Z f (λ_=>Bn (f.e Z) (f.e Z) Db) λa f=> ?_
 have ah:∀w,(Instr.build 75 #[(0,(.int .u32 aa)),(1,(.int .u32 (ior .u32 ab ad)))]).run prog w= .ok (.agg #[(.int .u32 aa),(.int .u32 (ior .u32 ab ad))]) w:=by intro w;simp[Instr.build,Instr.fill,BX,BQ,BD,BI,BA,BW,BP]
 refine q_p 7 14 Z f (λ_=>Fl f Z ah) λa f=>Bt 8 14 underlying75 Z sizeOf69 Z f Z λa f=>Br 9 14 1 BM Z Z Z f Z λa f=>Bt 10 14 underlying75 Z sizeOf69 Z f Z λa f=>Br 11 14 0 BM Z Z Z f Z λa f=>q_p 12 14 Z f (λ_=>Bn (f.e Z) (f.e Z) Bj) λa f=>BC 13 Z λai w aj m ak ak=>AA 0 0 (ds:=[(.int .u32 aa),(.int .u32 (ior .u32 ab ad))]) m sizeOf75 f Z Z Z (Ao Z (Ao Z AK)) Z (lb Z) Z λw m=>Aa ?_
 refine ak ai [ib ag 75 [(.int .u32 aa),(.int .u32 (ior .u32 ab ad))]] _ _ gr m ?_
 refine A2 λal w am m=>Ac f Z λa f=>Aa ?_
 refine Ap ?_
 have an:=CO (P:=prog) 0 m Dx f (s:=4) rfl rfl rfl
 have m:Mem W al w H:=Mem.drop (H':=[ib ag 75 [(.int .u32 aa),(.int .u32 (ior .u32 ab ad))],ib af 75 [(.int .u32 ac),(.int .u32 ad)],ib ae 75 [(.int .u32 aa),(.int .u32 ab)]]) m
 obtain rfl:=sj hd
 exact⟨[(.agg #[(.int .u32 aa),(.int .u32 (ior .u32 ab ad))]),(.bool (aa==ac))],⟨an,f.get _ _ Z,trivial⟩,f.d,_,[],(gt aj am),m,Z,Z⟩
theorem Wk.S {x0 x1:Int}(m:Mem W G w (H)){y:Int}(hd:D.S x0 x1=some y):
  Calls prog 42 #[(iv x0),(iv x1)] w (Res W G H (λ_ Ho v=>Ho=[]∧v=(iv y))):=by
 refine Au (args:=[(iv x0),(iv x1)]) (N:=8) [.tmp 4] func42 Z Z (lb Z) Z λa f=> ?_
 unfold D.S at hd
 refine Ae ?_
 refine Ac f Z λa f=>AD ?_
 refine Ab f Z λa f=>Ab f Z λa f=>Ah f Z Z AB λa f=>Ac f Z λa f=>Aa ?_
 refine Ap ?_
 obtain rfl:=sj hd
 exact⟨[(iv (i64.wrap (x0+x1)))],f.g Z,f.d,_,[],gr,m,Z,Z⟩
theorem Wk.m1 {x0 x1:Int}(m:Mem W G w (H)){y:Int}(hd:D.m1 x0 x1=some y):
  Calls prog 43 #[(iv x0),(iv x1)] w (Res W G H (λ_ Ho v=>Ho=[]∧v=(iv y))):=by
 refine Au (args:=[(iv x0),(iv x1)]) (N:=8) [.tmp 4] func43 Z Z (lb Z) Z λa f=> ?_
 unfold D.m1 at hd
 refine Ae ?_
 refine Ac f Z λa f=>AD ?_
 refine Ab f Z λa f=>Ab f Z λa f=>l_o f (r_min2 (f.e Z) (f.e Z)) λa f=>Ac f Z λa f=>Aa ?_
 refine Ap ?_
 obtain rfl:=sj hd
 exact⟨[(iv (if x1<x0 then x1 else x0))],f.g Z,f.d,_,[],gr,m,Z,Z⟩
theorem Wk.e1 {v0:Value}{x0:LL}(m:Mem W G w (H))(h0:R2 G v0 x0){y:Int}(hd:D.e1 x0=some y):
  Calls prog 75 #[v0,(.func (.func 35) #[] #[])] w (Res W G H (λ_ Ho v=>Ho=[]∧v=(iv y))):=by
 refine Au (args:=[v0,(.func (.func 35) #[] #[])]) (N:=19) [.tmp 4] func75 Z Z (lb Z) Z λa f=> ?_
 unfold D.e1 at hd
 refine Ae ?_
 refine Ac f Z λa f=>Aa (Ag (Ae ?_))
 refine Ab f Z λa f=>AL underlying27 f Z Z h0 λa f=>Ab f Z λa f=>Aa ?_
 have⟨aa,ab,hd⟩:=bind_some hd
 refine AM (λa w=>∃q_33':Unit,aa= .inl q_33'∧∃(ac:GH),GLe G ac∧Fr a 19 []∧Mem W ac w (H)) ?_ ?_
 ·refine Ak ?_
  refine AO (λad a w=>∃ae:Int,ae=ad∧∃(af:GH),GLe G af∧Fr a 19 [(0,v0),(1,(.func (.func 35) #[] #[])),(7,(iv (x0.length:Int))),(8,(iv ae))]∧Mem W af w (H)) ab ⟨_,Z,_,gr,f.k Z,m⟩ ?_
  clear ab f m
  rintro ad ag ah ai a w ⟨ae,rfl,af,aj,f,m⟩
  have h0:=rd2 aj h0
  refine Ae ?_
  refine Ah f Z Z AR λa f=>Aa (Ag ?_)
  rcases Af ah with⟨ak,ah⟩|⟨ak,ah⟩
  ·refine Al f Z ak ?_
   refine Am ?_
   refine Ag (Ak (Ae ?_))
   refine Ab f Z λa f=>Ac f Z λa f=>AD ?_
   refine Ab f Z λa f=>Ab f Z λa f=>Ab f Z λa f=> ?_
   have⟨al,am,ah⟩:=bind_some ah
   refine A4 T27 f Z Z Z h0 am λan ao a ap aq f=>Ax m Ba f Z Z ap λa f=> ?_
   have⟨ar,au,ah⟩:=bind_some ah
   refine CL f Z Z Z call35 (Wk.n0 m aq au) λav aw ax w ay m az a f=> ?_
   obtain⟨rfl,rfl⟩:=az
   refine Aa ?_
   rcases Af ah with⟨aA,ah⟩|⟨aA,ah⟩
   ·refine Al f Z aA ?_
    refine Ae ?_
    refine Ab f Z λa f=>Ac f Z λa f=>Aa ?_
    refine Ap ?_
    obtain rfl:=sj ah
    obtain rfl:=ai _ rfl
    obtain rfl:=sj hd
    exact⟨[(iv ae)],f.g Z,f.d,_,[],(gt aj ay),m,Z,Z⟩
   ·refine Ai f Z aA ?_
    refine Am ?_
    refine Aj ?_
    refine Ah f Z Z AB λa f=>Ab f Z λa f=>Aa ?_
    obtain rfl:=sj ah
    exact⟨_,Z,_,Z,_,(gt aj ay),f.k Z,m⟩
  ·refine Ai f Z ak ?_
   refine AG Z ?_
   obtain rfl:=sj ah
   obtain rfl:=ai _ rfl
   exact⟨_,Z,_,aj,f.weak trivial,m⟩
 ·rintro a w ⟨_,rfl,ac,aB,f,m⟩
  refine Ae ?_
  refine Ac f Z λa f=>Aa ?_
  refine Ap ?_
  obtain rfl:=sj hd
  exact⟨[(iv (-1))],f.g Z,f.d,_,[],aB,m,Z,Z⟩
theorem Wk.t0 {v0:Value}{x0:LL}(m:Mem W G w (H))(h0:R2 G v0 x0){y:Bool}(hd:D.t0 x0=some y):
  Calls prog 24 #[v0,(.func (.func 35) #[] #[])] w (Res W G H (λ_ Ho v=>Ho=[]∧v=(.bool y))):=by
 refine Au (args:=[v0,(.func (.func 35) #[] #[])]) (N:=9) [.tmp 4] func24 Z Z (lb Z) Z λa f=> ?_
 unfold D.t0 at hd
 refine Ae ?_
 refine Ac f Z λa f=>AD ?_
 refine Ab f Z λa f=>Ab f Z λa f=> ?_
 have⟨aa,ab,hd⟩:=bind_some hd
 refine Bd f Z call75 (Wk.e1 m h0 ab) λac w ad m a f=>Ah f Z Z Es λa f=>Ac f Z λa f=>Aa ?_
 refine Ap ?_
 obtain rfl:=sj hd
 exact⟨[(.bool (decide ((0:Int)≤aa)))],f.g Z,f.d,_,[],ad,m,Z,Z⟩
theorem Wk.B0 {b3:Nat}{aa:Value}{ab ac x1 x2:Int}{ad:LI}(m:Mem W G w (ib b3 62 [aa]::H))(ae:RSl (RI .u32) G aa ad){y:((List (Int×Int)))}(hd:D.B0 ab ac x1 x2 ad=some y):
  Calls prog 37 #[(.agg #[(.int .u32 ab),(.int .u32 ac)]),(iv x1),(.int .u32 x2),(pb b3)] w (Res W G H (λG' Ho v=>∃r0:Value,∃i0:Itm,Ho=[i0,ib b3 62 [aa]]∧r0=v∧OwR U2 75 G' i0 r0 y)):=by
 refine Au (args:=[(.agg #[(.int .u32 ab),(.int .u32 ac)]),(iv x1),(.int .u32 x2),(pb b3)]) (N:=48) [.tmp 7] func37 Z Z (lb Z) Z λa f=> ?_
 unfold D.B0 at hd
 refine Ae ?_
 refine Bo (cs:=[(.int .u32 ab),(.int .u32 ac)]) m f Z Z Z λaf w a m f=>Ac f Z λa f=>Aa (Ag ?_)
 have⟨ag,ah,hd⟩:=bind_some hd
 refine AM (λa w=>∃(ai:GH) (aj:Nat) (ak:Nat),GLe G ai∧Fr a 48 [(1,(iv x1)),(2,(.int .u32 x2)),(3,(pb b3)),(4,(pb af)),(8,(pb aj)),(9,(pb ak))]∧Mem W ai w (ib b3 62 [aa]::ib af 75 [(.int .u32 ab),(.int .u32 ac)]::ib aj 75 [(.int .u32 ab),(.int .u32 ac)]::ib ak 75 [(.int .u32 ab),(.int .u32 ac)]::H)) ?_ ?_
 ·refine Bf 5 AU (by kernel_rfl) m ?_
  refine BE (i:=0) (ds:=[(.int .u32 ab),(.int .u32 ac)]) 5 0 Dx Z Z Z Z (by kernel_rfl) Z f Z Z Z λa f=>BE (i:=1) (ds:=[(.int .u32 ab),(.int .u32 ac)]) 5 0 Dx Z Z Z Z (by kernel_rfl) Z f Z Z Z λa f=>EJ (i:=2) (j:=3) (l1:= #[true,true,true,false,false,false]) (l2:= #[true,true,false,true,false,false]) Z Z (by kernel_rfl) Z Z ?_ ?_
  ·intro al w am m an an
   refine Bp (cs:=[(.int .u32 0),(.int .u32 0)]) zeroValue75 m f Z Z λao w a m f=>Aa ?_
   refine an al [ib ao 75 [(.int .u32 0),(.int .u32 0)]] _ _ gr m ?_
   refine BC 3 Z λap w aq m ar ar=>Bp (cs:=[(.int .u32 0),(.int .u32 0)]) zeroValue75 m f Z Z λau w a m f=>Aa ?_
   refine ar ap [ib au 75 [(.int .u32 0),(.int .u32 0)],ib ao 75 [(.int .u32 0),(.int .u32 0)]] _ _ gr m ?_
   refine BC 4 Z λav w aw m ax ax=>AA 1 0 (ds:=[(.int .u32 ab),(.int .u32 ac)]) m sizeOf75 f Z Z Z (Ao Z (Ao Z AK)) Z (lb Z) Z λw m=>Aa ?_
   refine ax av [ib au 75 [(.int .u32 0),(.int .u32 0)],ib ao 75 [(.int .u32 ab),(.int .u32 ac)]] _ _ gr m ?_
   refine A2 λay w az m=>AA 0 0 (ds:=[(.int .u32 ab),(.int .u32 ac)]) m sizeOf75 f Z Z Z (Ao Z (Ao Z AK)) Z (lb Z) Z λw m=>Aa ?_
   have m:=m.fr 1
   have m:=m.fr 2
   have m:Mem W ay w (ib b3 62 [aa]::ib af 75 [(.int .u32 ab),(.int .u32 ac)]::ib ao 75 [(.int .u32 ab),(.int .u32 ac)]::ib au 75 [(.int .u32 ab),(.int .u32 ac)]::H):=m.fr 3
   obtain rfl:=sj ah
   exact⟨_,ao,au,(gt am (gt aq (gt aw az))),f.k Z,m⟩
  ·intro ap w aq m ar ar
   refine Bp (cs:=[(.int .u32 0),(.int .u32 0)]) zeroValue75 m f Z Z λau w a m f=>Aa ?_
   refine ar ap [ib au 75 [(.int .u32 0),(.int .u32 0)]] _ _ gr m ?_
   refine BC 2 Z λal w am m an an=>Bp (cs:=[(.int .u32 0),(.int .u32 0)]) zeroValue75 m f Z Z λao w a m f=>Aa ?_
   refine an al [ib ao 75 [(.int .u32 0),(.int .u32 0)],ib au 75 [(.int .u32 0),(.int .u32 0)]] _ _ gr m ?_
   refine BC 4 Z λav w aw m ax ax=>AA 0 0 (ds:=[(.int .u32 ab),(.int .u32 ac)]) m sizeOf75 f Z Z Z (Ao Z (Ao Z AK)) Z (lb Z) Z λw m=>Aa ?_
   refine ax av [ib ao 75 [(.int .u32 ab),(.int .u32 ac)],ib au 75 [(.int .u32 0),(.int .u32 0)]] _ _ gr m ?_
   refine A2 λay w az m=>AA 1 0 (ds:=[(.int .u32 ab),(.int .u32 ac)]) m sizeOf75 f Z Z Z (Ao Z (Ao Z AK)) Z (lb Z) Z λw m=>Aa ?_
   have m:=m.fr 2
   have m:Mem W ay w (ib b3 62 [aa]::ib af 75 [(.int .u32 ab),(.int .u32 ac)]::ib ao 75 [(.int .u32 ab),(.int .u32 ac)]::ib au 75 [(.int .u32 ab),(.int .u32 ac)]::H):=m.fr 3
   obtain rfl:=sj ah
   exact⟨_,ao,au,(gt aq (gt am (gt aw az))),f.k Z,m⟩
 ·rintro a w ⟨ai,aj,ak,aA,f,m⟩
  have ae:=rd1 aA ae
  refine Ag (Ag ?_)
  refine Bf 8 AU (by kernel_rfl) m ?_
  refine Br 0 8 0 Pl62 Z Z Z f Z λa f=>An 1 8 Z f Z λa f=> ?_
  have⟨aB,aC,hd⟩:=bind_some hd
  refine A8 2 8 T62 ae aC Z f Z Z λaD aE a aF aG f=> ?_
  subst aG
  refine A9 3 8 BM aF Z f Z λa f=>Bt 4 8 underlying75 Z sizeOf69 Z f Z λa f=>Br 5 8 1 BM Z Z Z f Z λa f=>q_p 6 8 Z f (λ_=>Bn (f.e Z) (f.e Z) CC) λa f=>q_p 7 8 Z f (λ_=>Bn (f.e Z) (f.e Z) Cm) λa f=>A2 λaH w aI m=> ?_
  have ae:=rd1 aI ae
  refine Aa ?_
  have⟨aJ,aK,hd⟩:=bind_some hd
  refine AM (λa w=>∃aL:Int,aL=aJ∧∃(aM:GH),GLe aH aM∧Fr a 48 [(1,(iv x1)),(2,(.int .u32 x2)),(3,(pb b3)),(8,(pb aj)),(9,(pb ak))]∧Mem W aM w (ib b3 62 [aa]::ib aj 75 [(.int .u32 ab),(.int .u32 aL)]::ib ak 75 [(.int .u32 ab),(.int .u32 ac)]::H)) ?_ ?_
  ·rcases Af aK with⟨aN,aK⟩|⟨aN,aK⟩
   ·refine Al f Z aN ?_
    refine Bf 6 AU (by kernel_rfl) m ?_
    refine Bt 0 6 underlying75 Z sizeOf69 Z f Z λa f=>Br 1 6 2 BM Z Z Z f Z λa f=>An 2 6 Z f Z λa f=> ?_
    have⟨aO,aP,aK⟩:=bind_some aK
    refine BJ (i:=3) 6 Z (by kernel_rfl) Z f Z Z Z call38 (λ_ _ w aQ m=>Wk.a m aP) λa f=>q_p 4 6 Z f (λ_=>Bn (f.e Z) (f.e Z) Db) λa f=>Bt 5 6 underlying75 Z sizeOf69 Z f Z λa f=>A2 λaR w aS m=>AA 2 1 (ds:=[(.int .u32 (ior .u32 ac aO))]) m sizeOf69 f Z Z Z (Ao Z AK) Z (lb Z) Z λw m=>Aa ?_
    have m:=m.fr 3
    have m:=m.fr 3
    have m:Mem W aR w (ib b3 62 [aa]::ib aj 75 [(.int .u32 ab),(.int .u32 (ior .u32 ac aO))]::ib ak 75 [(.int .u32 ab),(.int .u32 ac)]::ib af 75 [(.int .u32 ab),(.int .u32 ac)]::H):=m.fr 2
    have m:Mem W aR w (ib b3 62 [aa]::ib aj 75 [(.int .u32 ab),(.int .u32 (ior .u32 ac aO))]::ib ak 75 [(.int .u32 ab),(.int .u32 ac)]::H):=m.eraseAt 3
    obtain rfl:=sj aK
    exact⟨_,Z,_,aS,f.k Z,m⟩
   ·refine Ai f Z aN ?_
    refine Am ?_
    have m:=m.fr 3
    have m:=m.fr 3
    have m:Mem W aH w (ib b3 62 [aa]::ib aj 75 [(.int .u32 ab),(.int .u32 ac)]::ib ak 75 [(.int .u32 ab),(.int .u32 ac)]::ib af 75 [(.int .u32 ab),(.int .u32 ac)]::H):=m.fr 2
    have m:Mem W aH w (ib b3 62 [aa]::ib aj 75 [(.int .u32 ab),(.int .u32 ac)]::ib ak 75 [(.int .u32 ab),(.int .u32 ac)]::H):=m.eraseAt 3
    obtain rfl:=sj aK
    exact⟨_,Z,_,gr,f.k Z,m⟩
  ·rintro a w ⟨aL,rfl,aM,aT,f,m⟩
   have ae:=rd1 aT ae
   refine Ag ?_
   refine Bf 6 AU (by kernel_rfl) m ?_
   refine Bt 0 6 underlying75 Z sizeOf69 Z f Z λa f=>Br 1 6 2 BM Z Z Z f Z λa f=>An 2 6 Z f Z λa f=> ?_
   have⟨aU,aV,hd⟩:=bind_some hd
   refine BJ (i:=3) 6 Z (by kernel_rfl) Z f Z Z Z call38 (λ_ _ w aW m=>Wk.a m aV) λa f=>q_p 4 6 Z f (λ_=>Bn (f.e Z) (f.e Z) Db) λa f=>Bt 5 6 underlying75 Z sizeOf69 Z f Z λa f=>A2 λaX w aY m=> ?_
   have ae:=rd1 aY ae
   refine AA 2 0 (ds:=[(.int .u32 (ior .u32 ab aU))]) m sizeOf69 f Z Z Z (Ao Z AK) Z (lb Z) Z λw m=>Aa (Ag ?_)
   refine Bf 13 AU (by kernel_rfl) m ?_
   refine Bt 0 13 underlying75 Z sizeOf69 Z f Z λa f=>Br 1 13 2 BM Z Z Z f Z λa f=>Br 2 13 0 Pl62 Z Z Z f Z λa f=>An 3 13 Z f Z λa f=> ?_
   have⟨aZ,a0,hd⟩:=bind_some hd
   refine A8 4 13 T62 ae a0 Z f Z Z λa1 a2 a a3 a4 f=> ?_
   subst a4
   refine A9 5 13 BM a3 Z f Z λa f=>An 6 13 Z f Z λa f=>q_p 7 13 Z f (λ_=>Bn (f.e Z) (f.e Z) CC) λa f=>An 8 13 Z f Z λa f=> ?_
   have⟨a5,a6,hd⟩:=bind_some hd
   refine BJ (i:=9) 13 Z (by kernel_rfl) Z f Z Z Z call38 (λ_ _ w a7 m=>Wk.a m a6) λa f=>q_p 10 13 Z f (λ_=>Bn (f.e Z) (f.e Z) Db) λa f=>q_p 11 13 Z f (λ_=>Bn (f.e Z) (f.e Z) Db) λa f=>Bt 12 13 underlying75 Z sizeOf69 Z f Z λa f=>A2 λa8 w a9 m=>AA 2 1 (ds:=[(.int .u32 (ior .u32 ac (ior .u32 (iand .u32 aZ x2) a5)))]) m sizeOf69 f Z Z Z (Ao Z AK) Z (lb Z) Z λw m=>AD ?_
   refine AC 1 0 (ds:=[(.int .u32 ab),(.int .u32 aL)]) m Dx f Z Z Z Z Z λa f=>AC 2 0 (ds:=[(.int .u32 (ior .u32 ab aU)),(.int .u32 (ior .u32 ac (ior .u32 (iand .u32 aZ x2) a5)))]) m Dx f Z Z Z Z Z λa f=>l_slitR2 (E:=U2) (y:=(ab,aL)) (y':=((ior .u32 ab aU),(ior .u32 ac (ior .u32 (iand .u32 aZ x2) a5)))) (cs:=[(.int .u32 ab),(.int .u32 aL)]) (ds:=[(.int .u32 (ior .u32 ab aU)),(.int .u32 (ior .u32 ac (ior .u32 (iand .u32 aZ x2) a5)))]) m T76 f Z Z Z Z Z (lb Z) λba bb w a m bc f=>Ac f Z λa f=>Aa ?_
   refine Ap ?_
   have m:=m.eraseAt 3
   have m:=m.eraseAt 2
   obtain rfl:=sj hd
   exact⟨[bb],f.g Z,f.d,_,[ba,ib b3 62 [aa]],(gt aA (gt aI (gt aT (gt aY a9)))),m,_,_,Z,Z,bc⟩
theorem Wk.J {b0_0c0:Nat}{v0_0c0_0 v1:Value}{it1:Itm}{x0_0c0_0:LI}{x1:Bw}{aa ab x3:Int}(m:Mem W G w (ib b0_0c0 62 [v0_0c0_0]::it1::H))(h0_0c0_0:RSl (RI .u32) G v0_0c0_0 x0_0c0_0)(o1:OwMf eW2 G it1 v1 x1){y:Bw}(hd:D.J x0_0c0_0 x1 aa ab x3=some y):
  Calls prog 86 #[(.agg #[(.func (.func 37) #[] #[(pb b0_0c0)]),(.func (.func 39) #[] #[]),(.func (.func 41) #[] #[]),(.func (.func 42) #[] #[]),(.func (.func 43) #[] #[])]),v1,(.agg #[(.int .u32 aa),(.int .u32 ab)]),(iv x3)] w (Res W G H (λG' Ho _=>∃i0:Itm,Ho=[ib b0_0c0 62 [v0_0c0_0],i0]∧OwMf eW2 G' i0 v1 y)):=by
 refine Au (args:=[(.agg #[(.func (.func 37) #[] #[(pb b0_0c0)]),(.func (.func 39) #[] #[]),(.func (.func 41) #[] #[]),(.func (.func 42) #[] #[]),(.func (.func 43) #[] #[])]),v1,(.agg #[(.int .u32 aa),(.int .u32 ab)]),(iv x3)]) (N:=25) [] func86 Z Z (lb Z) Z λa f=> ?_
 unfold D.J at hd
 refine Ae ?_
 refine Bo (cs:=[(.func (.func 37) #[] #[(pb b0_0c0)]),(.func (.func 39) #[] #[]),(.func (.func 41) #[] #[]),(.func (.func 42) #[] #[]),(.func (.func 43) #[] #[])]) m f Z Z Z λac w a m f=>Bo (cs:=[(.int .u32 aa),(.int .u32 ab)]) m f Z Z Z λad w a m f=>Aa (Ag (Ae ?_))
 refine Ab f Z λa f=>AC 0 0 (ds:=[(.int .u32 aa),(.int .u32 ab)]) m Dx f Z Z Z Z Z λa f=>l_lookMf1 Mf75 (i:=(aa,ab)) 3 m o1 Z underlying79 zeroValue2 f Z Z Z λa f=>Ab f Z λa f=>l_o f (AF (f.e Z) Z) λa f=>l_o f (AF (f.e Z) Z) λa f=>Ac f Z λa f=>Ac f Z λa f=>AD ?_
 refine Ab f Z λa f=>Aa ?_
 rcases Af hd with⟨ae,hd⟩|⟨ae,hd⟩
 ·refine Al f Z ae ?_
  refine Aj ?_
  refine AW underlying85 Z sizeOf83 f Z λa f=>As 1 4 m Pl83 f Z Z Z Z λa f=>Ab f Z λa f=>Ab f Z λa f=> ?_
  have⟨af,ag,hd⟩:=bind_some hd
  refine CL f Z Z Z call43 (Wk.m1 m ag) λah ai aj w ak m al a f=> ?_
  obtain⟨rfl,rfl⟩:=al
  have o1:=OwMf.mono mfT ak o1
  refine Ac f Z λa f=>Aa (Aj ?_)
  refine Ab f Z λa f=>AC 0 0 (ds:=[(.int .u32 aa),(.int .u32 ab)]) m Dx f Z Z Z Z Z λa f=>Ab f Z λa f=>Fe Mf75 (i:=(aa,ab)) 3 m o1 Z underlying79 f Z Z Z λam w m an=>Aa ?_
  have m:=m.fr 3
  have m:=m.fr 3
  have m:Mem W ai w (ib b0_0c0 62 [v0_0c0_0]::am::ib ad 75 [(.int .u32 aa),(.int .u32 ab)]::H):=m.eraseAt 3
  have m:=m.eraseAt 2
  obtain rfl:=sj hd
  exact⟨[],trivial,f.d,_,[ib b0_0c0 62 [v0_0c0_0],am],ak,m,_,Z,an⟩
 ·refine Ai f Z ae ?_
  refine Am ?_
  refine Aj ?_
  refine Ab f Z λa f=>AC 0 0 (ds:=[(.int .u32 aa),(.int .u32 ab)]) m Dx f Z Z Z Z Z λa f=>Ab f Z λa f=>Fe Mf75 (i:=(aa,ab)) 3 m o1 Z underlying79 f Z Z Z λao w m ap=>Aa ?_
  have m:=m.fr 3
  have m:=m.fr 3
  have m:Mem W G w (ib b0_0c0 62 [v0_0c0_0]::ao::ib ad 75 [(.int .u32 aa),(.int .u32 ab)]::H):=m.eraseAt 3
  have m:=m.eraseAt 2
  obtain rfl:=sj hd
  exact⟨[],trivial,f.d,_,[ib b0_0c0 62 [v0_0c0_0],ao],gr,m,_,Z,ap⟩
set_option maxHeartbeats 1000000 in
theorem Wk.s0 {aa ab ac ad v1:Value}{b2_0c0:Nat}{v2_0c0_0:Value}{ae af:LI}{ag ah:LL}{x1:Bw}{x2_0c0_0:LI}(m:Mem W G w (ib b2_0c0 62 [v2_0c0_0]::H))(ai:R1 G aa ae)(aj:R1 G ab af)(ak:R2 G ac ag)(al:R2 G ad ah)(h1:RMf eW2 G v1 x1)(h2_0c0_0:RSl (RI .u32) G v2_0c0_0 x2_0c0_0){y:Bw}(hd:D.s0 ae af ag ah x1 x2_0c0_0=some y):
  Calls prog 44 #[(.agg #[aa,ab,ac,ad]),v1,(.agg #[(.func (.func 37) #[] #[(pb b2_0c0)]),(.func (.func 39) #[] #[]),(.func (.func 41) #[] #[]),(.func (.func 42) #[] #[]),(.func (.func 43) #[] #[])])] w (Res W G H (λG' Ho v=>∃r0:Value,Ho=[ib b2_0c0 62 [v2_0c0_0]]∧r0=v∧RMf eW2 G' r0 y)):=by
 refine Au (args:=[(.agg #[aa,ab,ac,ad]),v1,(.agg #[(.func (.func 37) #[] #[(pb b2_0c0)]),(.func (.func 39) #[] #[]),(.func (.func 41) #[] #[]),(.func (.func 42) #[] #[]),(.func (.func 43) #[] #[])])]) (N:=181) [.tmp 6] func44 Z Z (lb Z) Z λa f=> ?_
 unfold D.s0 at hd
 refine Ae ?_
 refine Bo (cs:=[aa,ab,ac,ad]) m f Z Z Z λam w a m f=>Bo (cs:=[(.func (.func 37) #[] #[(pb b2_0c0)]),(.func (.func 39) #[] #[]),(.func (.func 41) #[] #[]),(.func (.func 42) #[] #[]),(.func (.func 43) #[] #[])]) m f Z Z Z λan w a m f=>Ac f Z λa f=>AD ?_
 refine A7 (R:=(RMf eW2)) (xs:=([]:List Bw)) (RMf.one _) m Dz f Z Z Z (by decide) (All2.nil _) λao ap w a m aq f=>Ac f Z λa f=>Aa (Ag (Ae ?_))
 refine AW underlying38 Z sizeOf35 f Z λa f=>As 2 0 m Ba f Z Z Z Z λa f=>AL underlying35 f Z Z ai λa f=>Ab f Z λa f=>Aa ?_
 have⟨ar,au,hd⟩:=bind_some hd
 refine AM (λa w=>∃av:List Bw,av=ar∧∃(aw:GH) (ax:Value) (ay:Itm),GLe G aw∧Fr a 181 [(7,ax)]∧Mem W aw w (ib b2_0c0 62 [v2_0c0_0]::ay::H)∧Ow (RMf eW2) 79 aw ay ax av) ?_ ?_
 ·refine Ak ?_
  have m:=m.fr 3
  have m:=m.fr 2
  have m:Mem W G w (ib am 38 [aa,ab,ac,ad]::ib an 85 [(.func (.func 37) #[] #[(pb b2_0c0)]),(.func (.func 39) #[] #[]),(.func (.func 41) #[] #[]),(.func (.func 42) #[] #[]),(.func (.func 43) #[] #[])]::ib b2_0c0 62 [v2_0c0_0]::ao::H):=m.fr 3
  refine AO (λaz a w=>∃aA:List Bw,∃aB:Int,(aA,aB)=az∧∃(aC:GH) (aD:Value) (aE:Itm),GLe G aC∧Fr a 181 [(1,v1),(3,(pb am)),(5,(pb an)),(7,aD),(29,aa),(30,(iv (ae.length:Int))),(31,(iv aB))]∧Mem W aC w (ib am 38 [aa,ab,ac,ad]::ib an 85 [(.func (.func 37) #[] #[(pb b2_0c0)]),(.func (.func 39) #[] #[]),(.func (.func 41) #[] #[]),(.func (.func 42) #[] #[]),(.func (.func 43) #[] #[])]::ib b2_0c0 62 [v2_0c0_0]::aE::H)∧Ow (RMf eW2) 79 aC aE aD aA) au ⟨_,_,Z,_,ap,ao,gr,f.k Z,m,aq⟩ ?_
  clear au f m
  rintro az aF aG aH a w ⟨aA,aB,rfl,aC,aD,aE,aI,f,m,aJ⟩
  have h1:=RMf.mono mfT _ _ _ _ aI h1
  have ai:=rd1 aI ai
  have aj:=rd1 aI aj
  have ak:=rd2 aI ak
  have al:=rd2 aI al
  have h2_0c0_0:=rd1 aI h2_0c0_0
  refine Ae ?_
  refine Ah f Z Z AR λa f=>Aa (Ag ?_)
  rcases Af aG with⟨aK,aG⟩|⟨aK,aG⟩
  ·refine Al f Z aK ?_
   refine Am ?_
   refine Ag (Ak (Ae ?_))
   refine Ab f Z λa f=> ?_
   have⟨aL,aM,aG⟩:=bind_some aG
   refine A4 T35 f Z Z Z ai aM λaN aO a aP aQ f=> ?_
   subst aQ
   refine Ax m Pl2 f Z Z aP λa f=>Ac f Z λa f=>Ac f Z λa f=>Aa (Ag ?_)
   refine Bf 14 AU (by kernel_rfl) m ?_
   refine Bt 1 14 underlying38 Z sizeOf35 Z f Z λa f=>Br 2 14 0 Ba Z Z Z f Z λa f=>An 3 14 Z f Z λa f=> ?_
   have⟨aR,aS,aG⟩:=bind_some aG
   refine A8 4 14 T35 aj aS Z f Z Z λaT aU a aV aW f=> ?_
   subst aW
   refine A9 5 14 Pl2 aV Z f Z λa f=>Bt 6 14 underlying38 Z sizeOf27 Z f Z λa f=>Br 7 14 0 Be Z Z Z f Z λa f=>An 8 14 Z f Z λa f=> ?_
   have⟨aX,aY,aG⟩:=bind_some aG
   refine A8 9 14 T27 al aY Z f Z Z λaZ a0 a a1 a2 f=>A9 10 14 Ba a1 Z f Z λa f=>BC 0 Z λa3 w a4 m a5 a5=> ?_
   have h1:=RMf.mono mfT _ _ _ _ a4 h1
   have a2:=rd1 a4 a2
   have ak:=rd2 a4 ak
   have h2_0c0_0:=rd1 a4 h2_0c0_0
   have aJ:=Ow.mono (RMf.mono mfT) a4 aJ
   refine D8 eW2 m f Z λa6 a7 w a m a8 f=>Aa ?_
   refine a5 a3 [a6] _ _ gr m ?_
   refine q_p 11 14 Z f (λ_=>Bs (f.e Z)) λa f=>q_p 12 14 Z f (λ_=>Bs (f.e Z)) λa f=>q_p 13 14 Z f (λ_=>Bs (f.e Z)) λa f=>A2 λa9 w ba m=> ?_
   have h1:=RMf.mono mfT _ _ _ _ ba h1
   have a2:=rd1 ba a2
   have a8:=OwMf.mono mfT ba a8
   have ak:=rd2 ba ak
   have h2_0c0_0:=rd1 ba h2_0c0_0
   have aJ:=Ow.mono (RMf.mono mfT) ba aJ
   refine Aa (Ag (Ae ?_))
   refine Ab f Z λa f=>Aa (Ak (Ae ?_))
   refine Ah f Z Z Bj λa f=>Ac f Z λa f=>Aa ?_
   rcases Af aG with⟨bb,aG⟩|⟨bb,aG⟩
   ·refine Al f Z bb ?_
    refine Aj ?_
    refine Ab f Z λa f=>Ac f Z λa f=>Aa (Aj ?_)
    refine Ab f Z λa f=>Ab f Z λa f=>A7 (R:=(RMf eW2)) (xs:=([x1]:List Bw)) (RMf.one _) m Dz f Z Z Z (by decide) (All2.cons h1 (All2.nil _)) λbc bd w a m be f=> ?_
    have⟨bf,bg,aG⟩:=bind_some aG
    refine Bh (RMf.one _) 5 m aJ Z Dz Z (by decide) f Z Z Z (Ow.src (j:=0) be m Z) bg λbh bi w a m bj f=>Ac f Z λa f=>Aa (Aj ?_)
    refine Ah f Z Z AB λa f=>Ab f Z λa f=>Aa ?_
    have m:=m.fr 5
    have m:=m.fr 5
    have m:Mem W a9 w (ib an 85 [(.func (.func 37) #[] #[(pb b2_0c0)]),(.func (.func 39) #[] #[]),(.func (.func 41) #[] #[]),(.func (.func 42) #[] #[]),(.func (.func 43) #[] #[])]::ib b2_0c0 62 [v2_0c0_0]::bh::bc::a6::ib am 38 [aa,ab,ac,ad]::H):=m.fr 5
    have m:=m.fr 5
    have m:=m.eraseAt 5
    have m:Mem W a9 w (ib am 38 [aa,ab,ac,ad]::ib an 85 [(.func (.func 37) #[] #[(pb b2_0c0)]),(.func (.func 39) #[] #[]),(.func (.func 41) #[] #[]),(.func (.func 42) #[] #[]),(.func (.func 43) #[] #[])]::ib b2_0c0 62 [v2_0c0_0]::bh::H):=m.eraseAt 4
    obtain rfl:=sj aG
    exact⟨_,Z,_,_,Z,_,bi,bh,(gt aI (gt a4 ba)),f.k Z,m,bj⟩
   ·refine Ai f Z bb ?_
    refine Ae ?_
    refine Ah f Z Z Bj λa f=>Ac f Z λa f=>Aa ?_
    rcases Af aG with⟨bk,aG⟩|⟨bk,aG⟩
    ·refine Al f Z bk ?_
     refine Ae ?_
     refine Ab f Z λa f=>Ab f Z λa f=> ?_
     have⟨bl,bm,aG⟩:=bind_some aG
     refine A4 T35 f Z Z Z a2 bm λbn bo a bp bq f=> ?_
     subst bq
     refine Ax m Pl2 f Z Z bp λa f=> ?_
     have⟨br,bs,aG⟩:=bind_some aG
     refine Bi 4 m aJ Z Dz f Z Z Z bs λbt a bu f=>Bk 4 m aJ Z Pl79 f Z Z bu bs λbv a bw f=>CE m bw underlying79 f Z Z λbx bz bA w a m bB bC f=>Aa ?_
     have⟨bD,bE,aG⟩:=bind_some aG
     refine AM (λa w=>∃bF:Bw,bF=bD∧∃(bG:GH) (bH:Itm),GLe a9 bG∧Fr a 181 [(1,v1),(3,(pb am)),(5,(pb an)),(7,aD),(10,a7),(11,(iv aR)),(12,a0),(29,aa),(30,(iv (ae.length:Int))),(31,(iv aB))]∧Mem W bG w (ib am 38 [aa,ab,ac,ad]::ib an 85 [(.func (.func 37) #[] #[(pb b2_0c0)]),(.func (.func 39) #[] #[]),(.func (.func 41) #[] #[]),(.func (.func 42) #[] #[]),(.func (.func 43) #[] #[])]::ib b2_0c0 62 [v2_0c0_0]::aE::bH::H)∧OwMf eW2 bG bH a7 bF) ?_ ?_
     ·refine Ak ?_
      have m:=m.fr 5
      have m:=m.fr 5
      have m:Mem W a9 w (ib an 85 [(.func (.func 37) #[] #[(pb b2_0c0)]),(.func (.func 39) #[] #[]),(.func (.func 41) #[] #[]),(.func (.func 42) #[] #[]),(.func (.func 43) #[] #[])]::ib b2_0c0 62 [v2_0c0_0]::aE::bx::a6::ib am 38 [aa,ab,ac,ad]::H):=m.fr 5
      have m:=m.fr 5
      have m:Mem W a9 w (bx::ib am 38 [aa,ab,ac,ad]::ib an 85 [(.func (.func 37) #[] #[(pb b2_0c0)]),(.func (.func 39) #[] #[]),(.func (.func 41) #[] #[]),(.func (.func 42) #[] #[]),(.func (.func 43) #[] #[])]::ib b2_0c0 62 [v2_0c0_0]::aE::a6::H):=m.fr 4
      refine Df (λbI bJ a w=>∃bK:Bw,bK=bI∧∃(bL:GH) (bM:Itm) (bN:Itm),GLe a9 bL∧Fr a 181 [(1,v1),(3,(pb am)),(5,(pb an)),(7,aD),(10,a7),(11,(iv aR)),(12,a0),(29,aa),(30,(iv (ae.length:Int))),(31,(iv aB)),(59,bz)]∧Mem W bL w (bM::ib am 38 [aa,ab,ac,ad]::ib an 85 [(.func (.func 37) #[] #[(pb b2_0c0)]),(.func (.func 39) #[] #[]),(.func (.func 41) #[] #[]),(.func (.func 42) #[] #[]),(.func (.func 43) #[] #[])]::ib b2_0c0 62 [v2_0c0_0]::aE::bN::H)∧RgA eW2 bL bM bz bJ∧OwMf eW2 bL bN a7 bK) bE bC ⟨_,Z,_,bx,a6,gr,f.k Z,m,bB,a8⟩ ?_
      clear bE f m
      rintro bI bJ bO a w ⟨bK,rfl,bL,bM,bN,bP,f,m,bQ,bR⟩
      have h1:=RMf.mono mfT _ _ _ _ bP h1
      have a2:=rd1 bP a2
      have ak:=rd2 bP ak
      have h2_0c0_0:=rd1 bP h2_0c0_0
      refine Ae ?_
      refine C1 (enc:=eW2) Mf75.inj 0 m bQ Z f Z Z (λbS a f=> ?_) λbT bU bV w a bW m bX f=> ?_
      ·have bY:=CH bO bS
       subst bY
       have m:Mem W bL w (ib am 38 [aa,ab,ac,ad]::ib an 85 [(.func (.func 37) #[] #[(pb b2_0c0)]),(.func (.func 39) #[] #[]),(.func (.func 41) #[] #[]),(.func (.func 42) #[] #[]),(.func (.func 43) #[] #[])]::ib b2_0c0 62 [v2_0c0_0]::aE::bN::H):=m.eraseAt 0
       refine l_o f (AF (f.e Z) Z) λa f=>Aa (Ag ?_)
       refine Ai f Z Z ?_
       refine AG Z ?_
       exact⟨_,Z,_,bN,bP,f.k Z,m,bR⟩
      ·obtain⟨bZ,b0,b1⟩:=Cv bO bW
       have b2:=CX bW
       refine l_o f (AF (f.e Z) Z) λa f=>Aa (Ag ?_)
       refine Al f Z Z ?_
       refine Am ?_
       refine Ak (Ae ?_)
       refine CG 0 m bX Z f Z Z λa f=>l_o f (AF (f.e Z) Z) λa f=>l_o f (AF (f.e Z) Z) λa f=>Bp (cs:=[(.int .u32 0),(.int .u32 0)]) zeroValue75 m f Z Z λb3 w a m f=>AA 0 0 (ds:=[(.int .u32 bT.1.1),(.int .u32 bT.1.2)]) m sizeOf75 f Z Z Z (Ao Z (Ao Z AK)) Z (lb Z) Z λw m=>Ac f Z λa f=>Aa (Ag ?_)
       refine Bf 15 AU (by kernel_rfl) m ?_
       refine Bt 0 15 underlying85 Z sizeOf78 Z f Z λa f=>Br 1 15 3 Pl78 Z Z Z f Z λa f=>BE (i:=2) (ds:=[(.int .u32 bT.1.1),(.int .u32 bT.1.2)]) 15 0 Dx Z Z Z Z (by kernel_rfl) Z f Z Z Z λa f=>An 3 15 Z f Z λa f=>Bt 4 15 underlying38 Z sizeOf27 Z f Z λa f=>Br 5 15 2 Be Z Z Z f Z λa f=>An 6 15 Z f Z λa f=> ?_
       have⟨b4,b5,b0⟩:=bind_some b0
       refine A8 7 15 T35 a2 b5 Z f Z Z λb6 b7 a b8 b9 f=> ?_
       subst b9
       refine A9 8 15 Pl2 b8 Z f Z λa f=> ?_
       have⟨ca,cb,b0⟩:=bind_some b0
       refine A8 9 15 T27 ak cb Z f Z Z λcc cd a ce cf f=>A9 10 15 Ba ce Z f Z λa f=> ?_
       have⟨cg,ch,b0⟩:=bind_some b0
       refine BJ (i:=11) 15 Z (by kernel_rfl) Z f Z Z Z call76 (λ_ _ w ci m=>Wk.k m (rd1 ci cf) ch) λa f=>An 14 15 Z f Z λa f=>BC 12 Z λcj w ck m cl cl=> ?_
       have h1:=RMf.mono mfT _ _ _ _ ck h1
       have bX:=RgF.mono ck bX
       have h2_0c0_0:=rd1 ck h2_0c0_0
       have bR:=OwMf.mono mfT ck bR
       have m:Mem W cj w (ib b2_0c0 62 [v2_0c0_0]::ib b3 75 [(.int .u32 bT.1.1),(.int .u32 bT.1.2)]::bV::ib am 38 [aa,ab,ac,ad]::ib an 85 [(.func (.func 37) #[] #[(pb b2_0c0)]),(.func (.func 39) #[] #[]),(.func (.func 41) #[] #[]),(.func (.func 42) #[] #[]),(.func (.func 43) #[] #[])]::aE::bN::H):=m.fr 4
       have⟨cm,cn,b0⟩:=bind_some b0
       refine CL f Z Z Z call37 (Wk.B0 m h2_0c0_0 cn) λco cp cq w cr m ct a f=> ?_
       obtain⟨cu,cv,rfl,rfl,cw⟩:=ct
       have h1:=RMf.mono mfT _ _ _ _ cr h1
       have h2_0c0_0:=rd1 cr h2_0c0_0
       have bX:=RgF.mono cr bX
       have bR:=OwMf.mono mfT cr bR
       refine Aa ?_
       have m:=m.fr 5
       have m:=m.fr 5
       have m:Mem W cp w (bV::ib am 38 [aa,ab,ac,ad]::ib an 85 [(.func (.func 37) #[] #[(pb b2_0c0)]),(.func (.func 39) #[] #[]),(.func (.func 41) #[] #[]),(.func (.func 42) #[] #[]),(.func (.func 43) #[] #[])]::cv::ib b2_0c0 62 [v2_0c0_0]::ib b3 75 [(.int .u32 bT.1.1),(.int .u32 bT.1.2)]::aE::bN::H):=m.fr 5
       have m:=m.fr 5
       have m:Mem W cp w (cv::ib b3 75 [(.int .u32 bT.1.1),(.int .u32 bT.1.2)]::bV::ib am 38 [aa,ab,ac,ad]::ib an 85 [(.func (.func 37) #[] #[(pb b2_0c0)]),(.func (.func 39) #[] #[]),(.func (.func 41) #[] #[]),(.func (.func 42) #[] #[]),(.func (.func 43) #[] #[])]::ib b2_0c0 62 [v2_0c0_0]::aE::bN::H):=m.fr 4
       refine cl cp [cv] _ _ cr m ?_
       refine q_ownR_len (i:=13) (listed':= #[true,true,true,true,true,true,true,true,true,true,true,true,true,true,true]) 15 0 m cw Z underlying76 Z (by kernel_rfl) Z f Z Z Z λa f=>A2 λcx w cy m=> ?_
       have h1:=RMf.mono mfT _ _ _ _ cy h1
       have cw:=OwR.mono trivial cy cw
       have bX:=RgF.mono cy bX
       have h2_0c0_0:=rd1 cy h2_0c0_0
       have bR:=OwMf.mono mfT cy bR
       refine Aa ?_
       obtain⟨cz,cA,m,cB⟩:=OwR.stamp trivial cw m
       have h1:=RMf.mono mfT _ _ _ _ cA h1
       have bX:=RgF.mono cA bX
       have h2_0c0_0:=rd1 cA h2_0c0_0
       have bR:=OwMf.mono mfT cA bR
       have⟨cC,cD,b0⟩:=bind_some b0
       refine AM (λa w=>∃cE:Bw,cE=cC∧∃(cF:GH) (cG:Itm),GLe cz cF∧Fr a 181 [(1,v1),(3,(pb am)),(5,(pb an)),(7,aD),(10,a7),(11,(iv aR)),(12,a0),(29,aa),(30,(iv (ae.length:Int))),(31,(iv aB)),(59,bz)]∧Mem W cF w (bV::ib am 38 [aa,ab,ac,ad]::ib an 85 [(.func (.func 37) #[] #[(pb b2_0c0)]),(.func (.func 39) #[] #[]),(.func (.func 41) #[] #[]),(.func (.func 42) #[] #[]),(.func (.func 43) #[] #[])]::ib b2_0c0 62 [v2_0c0_0]::aE::cG::H)∧OwMf eW2 cF cG a7 cE) ?_ ?_
       ·refine Ak ?_
        have m:=m.fr 6
        have m:=m.fr 6
        have m:Mem W cz w (ib b2_0c0 62 [v2_0c0_0]::aE::bN::ib b3 75 [(.int .u32 bT.1.1),(.int .u32 bT.1.2)]::bV::ib am 38 [aa,ab,ac,ad]::ib an 85 [(.func (.func 37) #[] #[(pb b2_0c0)]),(.func (.func 39) #[] #[]),(.func (.func 41) #[] #[]),(.func (.func 42) #[] #[]),(.func (.func 43) #[] #[])]::H):=m.fr 6
        have m:=m.fr 6
        have m:=m.fr 6
        have m:Mem W cz w (bV::ib am 38 [aa,ab,ac,ad]::ib an 85 [(.func (.func 37) #[] #[(pb b2_0c0)]),(.func (.func 39) #[] #[]),(.func (.func 41) #[] #[]),(.func (.func 42) #[] #[]),(.func (.func 43) #[] #[])]::ib b2_0c0 62 [v2_0c0_0]::aE::bN::ib b3 75 [(.int .u32 bT.1.1),(.int .u32 bT.1.2)]::H):=m.fr 6
        have m:Mem W cz w (bV::ib am 38 [aa,ab,ac,ad]::ib an 85 [(.func (.func 37) #[] #[(pb b2_0c0)]),(.func (.func 39) #[] #[]),(.func (.func 41) #[] #[]),(.func (.func 42) #[] #[]),(.func (.func 43) #[] #[])]::ib b2_0c0 62 [v2_0c0_0]::aE::bN::H):=m.eraseAt 6
        refine AO (λcH a w=>∃cI:Bw,∃cJ:List (Int×Int),∃cK:Int,(cI,cJ,cK)=cH∧∃(cL:GH) (cM:Itm) (cN:Value),GLe cz cL∧Fr a 181 [(1,v1),(3,(pb am)),(5,(pb an)),(7,aD),(10,a7),(11,(iv aR)),(12,a0),(14,(iv bT.2)),(29,aa),(30,(iv (ae.length:Int))),(31,(iv aB)),(59,bz),(77,cN),(78,(iv (cm.length:Int))),(79,(iv cK))]∧Mem W cL w (bV::ib am 38 [aa,ab,ac,ad]::ib an 85 [(.func (.func 37) #[] #[(pb b2_0c0)]),(.func (.func 39) #[] #[]),(.func (.func 41) #[] #[]),(.func (.func 42) #[] #[]),(.func (.func 43) #[] #[])]::ib b2_0c0 62 [v2_0c0_0]::aE::cM::H)∧OwMf eW2 cL cM a7 cI∧RSr U2 cL cN cJ) cD ⟨_,_,_,Z,_,bN,cu,gr,f.k Z,m,bR,cB⟩ ?_
        clear cD f m
        rintro cH cO cP cQ a w ⟨cI,cJ,cK,rfl,cL,cM,cN,cR,f,m,cS,cT⟩
        have h1:=RMf.mono mfT _ _ _ _ cR h1
        have bX:=RgF.mono cR bX
        have h2_0c0_0:=rd1 cR h2_0c0_0
        refine Ae ?_
        refine Ah f Z Z AR λa f=>Aa (Ag ?_)
        rcases Af cP with⟨cU,cP⟩|⟨cU,cP⟩
        ·refine Al f Z cU ?_
         refine Am ?_
         refine Ag (Ak (Ae ?_))
         have⟨cV,cW,cP⟩:=bind_some cP
         refine l_atR (E:=U2) T76 f Z Z Z cT cW λcX a cY f=>l_loadR (E:=U2) [(.int .u32 cV.1),(.int .u32 cV.2)] m Dx f Z Z cY Z λa f=>Bp (cs:=[(.int .u32 0),(.int .u32 0)]) zeroValue75 m f Z Z λcZ w a m f=>AA 0 0 (ds:=[(.int .u32 cV.1),(.int .u32 cV.2)]) m sizeOf75 f Z Z Z (Ao Z (Ao Z AK)) Z (lb Z) Z λw m=>Aa (Aj ?_)
         refine AC 3 0 (ds:=[(.func (.func 37) #[] #[(pb b2_0c0)]),(.func (.func 39) #[] #[]),(.func (.func 41) #[] #[]),(.func (.func 42) #[] #[]),(.func (.func 43) #[] #[])]) m Ag85 f Z Z Z Z Z λa f=>Ab f Z λa f=>AC 0 0 (ds:=[(.int .u32 cV.1),(.int .u32 cV.2)]) m Dx f Z Z Z Z Z λa f=>Ab f Z λa f=> ?_
         have m:=m.fr 6
         have m:Mem W cL w (ib b2_0c0 62 [v2_0c0_0]::cM::ib cZ 75 [(.int .u32 cV.1),(.int .u32 cV.2)]::bV::ib am 38 [aa,ab,ac,ad]::ib an 85 [(.func (.func 37) #[] #[(pb b2_0c0)]),(.func (.func 39) #[] #[]),(.func (.func 41) #[] #[]),(.func (.func 42) #[] #[]),(.func (.func 43) #[] #[])]::aE::H):=m.fr 5
         have⟨c0,c1,cP⟩:=bind_some cP
         refine AX f Z call86 (Wk.J m h2_0c0_0 cS c1) λc2 c3 c4 w c5 m c6 a f=> ?_
         obtain⟨c7,rfl,c8⟩:=c6
         have h1:=RMf.mono mfT _ _ _ _ c5 h1
         have cT:=RSr.mono trivial _ _ _ _ c5 cT
         have bX:=RgF.mono c5 bX
         refine Aa (Aj ?_)
         refine Ah f Z Z AB λa f=>Ab f Z λa f=>Aa ?_
         have m:=m.fr 6
         have m:=m.fr 1
         have m:Mem W c3 w (ib an 85 [(.func (.func 37) #[] #[(pb b2_0c0)]),(.func (.func 39) #[] #[]),(.func (.func 41) #[] #[]),(.func (.func 42) #[] #[]),(.func (.func 43) #[] #[])]::ib b2_0c0 62 [v2_0c0_0]::aE::c7::ib cZ 75 [(.int .u32 cV.1),(.int .u32 cV.2)]::bV::ib am 38 [aa,ab,ac,ad]::H):=m.fr 6
         have m:=m.fr 6
         have m:=m.fr 6
         have m:Mem W c3 w (bV::ib am 38 [aa,ab,ac,ad]::ib an 85 [(.func (.func 37) #[] #[(pb b2_0c0)]),(.func (.func 39) #[] #[]),(.func (.func 41) #[] #[]),(.func (.func 42) #[] #[]),(.func (.func 43) #[] #[])]::ib b2_0c0 62 [v2_0c0_0]::aE::c7::H):=m.eraseAt 6
         obtain rfl:=sj cP
         exact⟨_,Z,_,_,_,Z,_,c7,cN,(gt cR c5),f.k Z,m,c8,cT⟩
        ·refine Ai f Z cU ?_
         refine AG Z ?_
         obtain rfl:=sj cP
         obtain rfl:=cQ _ rfl
         exact⟨_,Z,_,cM,cR,f.k Z,m,cS⟩
       ·rintro a w ⟨cE,rfl,cF,cG,c9,f,m,da⟩
        have h1:=RMf.mono mfT _ _ _ _ c9 h1
        have bX:=RgF.mono c9 bX
        obtain rfl:=sj b0
        exact⟨_,_,b2,b1,_,Z,_,bV,cG,(gt bP (gt ck (gt cr (gt cy (gt cA c9))))),f.k Z,m,bX.any,da⟩
     ·rintro a w ⟨bF,rfl,bG,bH,db,f,m,dc⟩
      have h1:=RMf.mono mfT _ _ _ _ db h1
      have aJ:=Ow.mono (RMf.mono mfT) db aJ
      refine Aj ?_
      refine Ab f Z λa f=>Ab f Z λa f=> ?_
      have m:Mem W bG w (bH::ib am 38 [aa,ab,ac,ad]::ib an 85 [(.func (.func 37) #[] #[(pb b2_0c0)]),(.func (.func 39) #[] #[]),(.func (.func 41) #[] #[]),(.func (.func 42) #[] #[]),(.func (.func 43) #[] #[])]::ib b2_0c0 62 [v2_0c0_0]::aE::H):=m.fr 4
      obtain⟨dd,de,m,df⟩:=OwMf.stamp mfT dc m
      have h1:=RMf.mono mfT _ _ _ _ de h1
      have aJ:=Ow.mono (RMf.mono mfT) de aJ
      refine A7 (R:=(RMf eW2)) (xs:=([bF]:List Bw)) (RMf.one _) m Dz f Z Z Z (by decide) (All2.cons df (All2.nil _)) λdg dh w a m di f=> ?_
      have⟨dj,dk,aG⟩:=bind_some aG
      refine Bh (RMf.one _) 4 m aJ Z Dz Z (by decide) f Z Z Z (Ow.src (j:=0) di m Z) dk λdl dm w a m dn f=>Ac f Z λa f=>Aa (Aj ?_)
      refine Ah f Z Z AB λa f=>Ab f Z λa f=>Aa ?_
      have m:=m.fr 4
      have m:=m.fr 4
      have m:Mem W dd w (ib an 85 [(.func (.func 37) #[] #[(pb b2_0c0)]),(.func (.func 39) #[] #[]),(.func (.func 41) #[] #[]),(.func (.func 42) #[] #[]),(.func (.func 43) #[] #[])]::ib b2_0c0 62 [v2_0c0_0]::dl::dg::ib am 38 [aa,ab,ac,ad]::H):=m.fr 4
      have m:=m.fr 4
      have m:Mem W dd w (ib am 38 [aa,ab,ac,ad]::ib an 85 [(.func (.func 37) #[] #[(pb b2_0c0)]),(.func (.func 39) #[] #[]),(.func (.func 41) #[] #[]),(.func (.func 42) #[] #[]),(.func (.func 43) #[] #[])]::ib b2_0c0 62 [v2_0c0_0]::dl::H):=m.eraseAt 4
      obtain rfl:=sj aG
      exact⟨_,Z,_,_,Z,_,dm,dl,(gt aI (gt a4 (gt ba (gt db de)))),f.k Z,m,dn⟩
    ·refine Ai f Z bk ?_
     refine Ae ?_
     refine Ah f Z Z Bj λa f=>Ac f Z λa f=>Aa ?_
     rcases Af aG with⟨dp,aG⟩|⟨dp,aG⟩
     ·refine Al f Z dp ?_
      refine Ae ?_
      refine Ab f Z λa f=>Ab f Z λa f=> ?_
      have⟨dq,dr,aG⟩:=bind_some aG
      refine A4 T35 f Z Z Z a2 dr λdt du a dv dw f=> ?_
      subst dw
      refine Ax m Pl2 f Z Z dv λa f=> ?_
      have⟨dx,dy,aG⟩:=bind_some aG
      refine Bi 4 m aJ Z Dz f Z Z Z dy λdz a dA f=>Bk 4 m aJ Z Pl79 f Z Z dA dy λdB a dC f=>CE m dC underlying79 f Z Z λdD dE dF w a m dG dH f=>Aa ?_
      have⟨dI,dJ,aG⟩:=bind_some aG
      refine AM (λa w=>∃dK:Bw,dK=dI∧∃(dL:GH) (dM:Itm),GLe a9 dL∧Fr a 181 [(1,v1),(3,(pb am)),(5,(pb an)),(7,aD),(8,(iv aB)),(10,a7),(11,(iv aR)),(29,aa),(30,(iv (ae.length:Int))),(31,(iv aB))]∧Mem W dL w (ib am 38 [aa,ab,ac,ad]::ib an 85 [(.func (.func 37) #[] #[(pb b2_0c0)]),(.func (.func 39) #[] #[]),(.func (.func 41) #[] #[]),(.func (.func 42) #[] #[]),(.func (.func 43) #[] #[])]::ib b2_0c0 62 [v2_0c0_0]::aE::dM::H)∧OwMf eW2 dL dM a7 dK) ?_ ?_
      ·refine Ak ?_
       have m:=m.fr 5
       have m:=m.fr 5
       have m:Mem W a9 w (ib an 85 [(.func (.func 37) #[] #[(pb b2_0c0)]),(.func (.func 39) #[] #[]),(.func (.func 41) #[] #[]),(.func (.func 42) #[] #[]),(.func (.func 43) #[] #[])]::ib b2_0c0 62 [v2_0c0_0]::aE::dD::a6::ib am 38 [aa,ab,ac,ad]::H):=m.fr 5
       have m:=m.fr 5
       have m:Mem W a9 w (dD::ib am 38 [aa,ab,ac,ad]::ib an 85 [(.func (.func 37) #[] #[(pb b2_0c0)]),(.func (.func 39) #[] #[]),(.func (.func 41) #[] #[]),(.func (.func 42) #[] #[]),(.func (.func 43) #[] #[])]::ib b2_0c0 62 [v2_0c0_0]::aE::a6::H):=m.fr 4
       refine Df (λdN dO a w=>∃dP:Bw,dP=dN∧∃(dQ:GH) (dR:Itm) (dS:Itm),GLe a9 dQ∧Fr a 181 [(1,v1),(3,(pb am)),(5,(pb an)),(7,aD),(8,(iv aB)),(10,a7),(11,(iv aR)),(29,aa),(30,(iv (ae.length:Int))),(31,(iv aB)),(97,dE)]∧Mem W dQ w (dR::ib am 38 [aa,ab,ac,ad]::ib an 85 [(.func (.func 37) #[] #[(pb b2_0c0)]),(.func (.func 39) #[] #[]),(.func (.func 41) #[] #[]),(.func (.func 42) #[] #[]),(.func (.func 43) #[] #[])]::ib b2_0c0 62 [v2_0c0_0]::aE::dS::H)∧RgA eW2 dQ dR dE dO∧OwMf eW2 dQ dS a7 dP) dJ dH ⟨_,Z,_,dD,a6,gr,f.k Z,m,dG,a8⟩ ?_
       clear dJ f m
       rintro dN dO dT a w ⟨dP,rfl,dQ,dR,dS,dU,f,m,dV,dW⟩
       have h1:=RMf.mono mfT _ _ _ _ dU h1
       have ak:=rd2 dU ak
       have h2_0c0_0:=rd1 dU h2_0c0_0
       refine Ae ?_
       refine C1 (enc:=eW2) Mf75.inj 0 m dV Z f Z Z (λdX a f=> ?_) λdY dZ d0 w a d1 m d2 f=> ?_
       ·have d3:=CH dT dX
        subst d3
        have m:Mem W dQ w (ib am 38 [aa,ab,ac,ad]::ib an 85 [(.func (.func 37) #[] #[(pb b2_0c0)]),(.func (.func 39) #[] #[]),(.func (.func 41) #[] #[]),(.func (.func 42) #[] #[]),(.func (.func 43) #[] #[])]::ib b2_0c0 62 [v2_0c0_0]::aE::dS::H):=m.eraseAt 0
        refine l_o f (AF (f.e Z) Z) λa f=>Aa (Ag ?_)
        refine Ai f Z Z ?_
        refine AG Z ?_
        exact⟨_,Z,_,dS,dU,f.k Z,m,dW⟩
       ·obtain⟨d4,d5,d6⟩:=Cv dT d1
        have d7:=CX d1
        refine l_o f (AF (f.e Z) Z) λa f=>Aa (Ag ?_)
        refine Al f Z Z ?_
        refine Am ?_
        refine Ak (Ae ?_)
        refine CG 0 m d2 Z f Z Z λa f=>l_o f (AF (f.e Z) Z) λa f=>l_o f (AF (f.e Z) Z) λa f=>Bp (cs:=[(.int .u32 0),(.int .u32 0)]) zeroValue75 m f Z Z λd8 w a m f=>AA 0 0 (ds:=[(.int .u32 dY.1.1),(.int .u32 dY.1.2)]) m sizeOf75 f Z Z Z (Ao Z (Ao Z AK)) Z (lb Z) Z λw m=>Ac f Z λa f=>Aa (Ag ?_)
        refine Bf 12 AU (by kernel_rfl) m ?_
        refine Bt 0 12 underlying85 Z sizeOf81 Z f Z λa f=>Br 1 12 3 Pl81 Z Z Z f Z λa f=>BE (i:=2) (ds:=[(.int .u32 dY.1.1),(.int .u32 dY.1.2)]) 12 0 Dx Z Z Z Z (by kernel_rfl) Z f Z Z Z λa f=>An 3 12 Z f Z λa f=>Bt 4 12 underlying38 Z sizeOf27 Z f Z λa f=>Br 5 12 2 Be Z Z Z f Z λa f=>An 6 12 Z f Z λa f=> ?_
        have⟨d9,ea,d5⟩:=bind_some d5
        refine A8 7 12 T27 ak ea Z f Z Z λeb ec a ed ee f=>A9 8 12 Ba ed Z f Z λa f=> ?_
        have⟨ef,eg,d5⟩:=bind_some d5
        refine BJ (i:=9) 12 Z (by kernel_rfl) Z f Z Z Z call76 (λ_ _ w eh m=>Wk.k m (rd1 eh ee) eg) λa f=>An 10 12 Z f Z λa f=>BC 11 Z λei w ej m ek ek=> ?_
        have h1:=RMf.mono mfT _ _ _ _ ej h1
        have d2:=RgF.mono ej d2
        have h2_0c0_0:=rd1 ej h2_0c0_0
        have dW:=OwMf.mono mfT ej dW
        have⟨el,em,d5⟩:=bind_some d5
        refine CL f Z Z Z call39 (Wk.P0 m em) λen eo ep w eq m er a f=> ?_
        obtain⟨es,rfl,rfl,et⟩:=er
        have h1:=RMf.mono mfT _ _ _ _ eq h1
        have d2:=RgF.mono eq d2
        have h2_0c0_0:=rd1 eq h2_0c0_0
        have dW:=OwMf.mono mfT eq dW
        refine Aa ?_
        refine ek eo [] _ _ eq m ?_
        refine A2 λeu w ev m=> ?_
        have h1:=RMf.mono mfT _ _ _ _ ev h1
        have et:=RMf.mono mfT _ _ _ _ ev et
        have d2:=RgF.mono ev d2
        have h2_0c0_0:=rd1 ev h2_0c0_0
        have dW:=OwMf.mono mfT ev dW
        refine CE m et underlying79 f Z Z λew ex ey w a m ez eA f=>Aa ?_
        have⟨eB,eC,d5⟩:=bind_some d5
        refine AM (λa w=>∃eD:Bw,eD=eB∧∃(eE:GH) (eF:Itm),GLe eu eE∧Fr a 181 [(1,v1),(3,(pb am)),(5,(pb an)),(7,aD),(8,(iv aB)),(10,a7),(11,(iv aR)),(29,aa),(30,(iv (ae.length:Int))),(31,(iv aB)),(97,dE)]∧Mem W eE w (d0::ib am 38 [aa,ab,ac,ad]::ib an 85 [(.func (.func 37) #[] #[(pb b2_0c0)]),(.func (.func 39) #[] #[]),(.func (.func 41) #[] #[]),(.func (.func 42) #[] #[]),(.func (.func 43) #[] #[])]::ib b2_0c0 62 [v2_0c0_0]::aE::eF::H)∧OwMf eW2 eE eF a7 eD) ?_ ?_
        ·refine Ak ?_
         have m:=m.fr 7
         have m:=m.fr 7
         have m:Mem W eu w (ib b2_0c0 62 [v2_0c0_0]::aE::dS::ew::ib d8 75 [(.int .u32 dY.1.1),(.int .u32 dY.1.2)]::d0::ib am 38 [aa,ab,ac,ad]::ib an 85 [(.func (.func 37) #[] #[(pb b2_0c0)]),(.func (.func 39) #[] #[]),(.func (.func 41) #[] #[]),(.func (.func 42) #[] #[]),(.func (.func 43) #[] #[])]::H):=m.fr 7
         have m:=m.fr 7
         have m:=m.fr 7
         have m:Mem W eu w (d0::ib am 38 [aa,ab,ac,ad]::ib an 85 [(.func (.func 37) #[] #[(pb b2_0c0)]),(.func (.func 39) #[] #[]),(.func (.func 41) #[] #[]),(.func (.func 42) #[] #[]),(.func (.func 43) #[] #[])]::ib b2_0c0 62 [v2_0c0_0]::aE::dS::ew::ib d8 75 [(.int .u32 dY.1.1),(.int .u32 dY.1.2)]::H):=m.fr 7
         have m:=m.fr 6
         have m:Mem W eu w (ew::d0::ib am 38 [aa,ab,ac,ad]::ib an 85 [(.func (.func 37) #[] #[(pb b2_0c0)]),(.func (.func 39) #[] #[]),(.func (.func 41) #[] #[]),(.func (.func 42) #[] #[]),(.func (.func 43) #[] #[])]::ib b2_0c0 62 [v2_0c0_0]::aE::dS::H):=m.eraseAt 7
         refine Df (λeG eH a w=>∃eI:Bw,eI=eG∧∃(eJ:GH) (eK:Itm) (eL:Itm),GLe eu eJ∧Fr a 181 [(1,v1),(3,(pb am)),(5,(pb an)),(7,aD),(8,(iv aB)),(10,a7),(11,(iv aR)),(29,aa),(30,(iv (ae.length:Int))),(31,(iv aB)),(97,dE),(115,ex)]∧Mem W eJ w (eK::d0::ib am 38 [aa,ab,ac,ad]::ib an 85 [(.func (.func 37) #[] #[(pb b2_0c0)]),(.func (.func 39) #[] #[]),(.func (.func 41) #[] #[]),(.func (.func 42) #[] #[]),(.func (.func 43) #[] #[])]::ib b2_0c0 62 [v2_0c0_0]::aE::eL::H)∧RgA eW2 eJ eK ex eH∧OwMf eW2 eJ eL a7 eI) eC eA ⟨_,Z,_,ew,dS,gr,f.k Z,m,ez,dW⟩ ?_
         clear eC f m
         rintro eG eH eM a w ⟨eI,rfl,eJ,eK,eL,eN,f,m,eO,eP⟩
         have h1:=RMf.mono mfT _ _ _ _ eN h1
         have d2:=RgF.mono eN d2
         have h2_0c0_0:=rd1 eN h2_0c0_0
         refine Ae ?_
         refine C1 (enc:=eW2) Mf75.inj 0 m eO Z f Z Z (λeQ a f=> ?_) λeR eS eT w a eU m eV f=> ?_
         ·have eW:=CH eM eQ
          subst eW
          have m:Mem W eJ w (d0::ib am 38 [aa,ab,ac,ad]::ib an 85 [(.func (.func 37) #[] #[(pb b2_0c0)]),(.func (.func 39) #[] #[]),(.func (.func 41) #[] #[]),(.func (.func 42) #[] #[]),(.func (.func 43) #[] #[])]::ib b2_0c0 62 [v2_0c0_0]::aE::eL::H):=m.eraseAt 0
          refine l_o f (AF (f.e Z) Z) λa f=>Aa (Ag ?_)
          refine Ai f Z Z ?_
          refine AG Z ?_
          exact⟨_,Z,_,eL,eN,f.k Z,m,eP⟩
         ·obtain⟨eX,eY,eZ⟩:=Cv eM eU
          have e0:=CX eU
          refine l_o f (AF (f.e Z) Z) λa f=>Aa (Ag ?_)
          refine Al f Z Z ?_
          refine Am ?_
          refine Ak (Ae ?_)
          refine CG 0 m eV Z f Z Z λa f=>l_o f (AF (f.e Z) Z) λa f=>l_o f (AF (f.e Z) Z) λa f=>Bp (cs:=[(.int .u32 0),(.int .u32 0)]) zeroValue75 m f Z Z λe1 w a m f=>AA 0 0 (ds:=[(.int .u32 eR.1.1),(.int .u32 eR.1.2)]) m sizeOf75 f Z Z Z (Ao Z (Ao Z AK)) Z (lb Z) Z λw m=>Ac f Z λa f=>Aa (Aj ?_)
          refine AC 4 0 (ds:=[(.func (.func 37) #[] #[(pb b2_0c0)]),(.func (.func 39) #[] #[]),(.func (.func 41) #[] #[]),(.func (.func 42) #[] #[]),(.func (.func 43) #[] #[])]) m Ag85 f Z Z Z Z Z λa f=>Ab f Z λa f=>AC 0 0 (ds:=[(.int .u32 eR.1.1),(.int .u32 eR.1.2)]) m Dx f Z Z Z Z Z λa f=>Ab f Z λa f=> ?_
          have m:=m.fr 7
          have m:Mem W eJ w (ib b2_0c0 62 [v2_0c0_0]::eL::ib e1 75 [(.int .u32 eR.1.1),(.int .u32 eR.1.2)]::eT::d0::ib am 38 [aa,ab,ac,ad]::ib an 85 [(.func (.func 37) #[] #[(pb b2_0c0)]),(.func (.func 39) #[] #[]),(.func (.func 41) #[] #[]),(.func (.func 42) #[] #[]),(.func (.func 43) #[] #[])]::aE::H):=m.fr 6
          have⟨e2,e3,eY⟩:=bind_some eY
          refine AX f Z call86 (Wk.J m h2_0c0_0 eP e3) λe4 e5 e6 w e7 m e8 a f=> ?_
          obtain⟨e9,rfl,fa⟩:=e8
          have h1:=RMf.mono mfT _ _ _ _ e7 h1
          have eV:=RgF.mono e7 eV
          have d2:=RgF.mono e7 d2
          refine Aa ?_
          have m:=m.fr 7
          have m:=m.fr 1
          have m:Mem W e5 w (ib an 85 [(.func (.func 37) #[] #[(pb b2_0c0)]),(.func (.func 39) #[] #[]),(.func (.func 41) #[] #[]),(.func (.func 42) #[] #[]),(.func (.func 43) #[] #[])]::ib b2_0c0 62 [v2_0c0_0]::aE::e9::ib e1 75 [(.int .u32 eR.1.1),(.int .u32 eR.1.2)]::eT::d0::ib am 38 [aa,ab,ac,ad]::H):=m.fr 7
          have m:=m.fr 7
          have m:=m.fr 7
          have m:Mem W e5 w (eT::d0::ib am 38 [aa,ab,ac,ad]::ib an 85 [(.func (.func 37) #[] #[(pb b2_0c0)]),(.func (.func 39) #[] #[]),(.func (.func 41) #[] #[]),(.func (.func 42) #[] #[]),(.func (.func 43) #[] #[])]::ib b2_0c0 62 [v2_0c0_0]::aE::e9::ib e1 75 [(.int .u32 eR.1.1),(.int .u32 eR.1.2)]::H):=m.fr 7
          have m:Mem W e5 w (eT::d0::ib am 38 [aa,ab,ac,ad]::ib an 85 [(.func (.func 37) #[] #[(pb b2_0c0)]),(.func (.func 39) #[] #[]),(.func (.func 41) #[] #[]),(.func (.func 42) #[] #[]),(.func (.func 43) #[] #[])]::ib b2_0c0 62 [v2_0c0_0]::aE::e9::H):=m.eraseAt 7
          obtain rfl:=sj eY
          exact⟨_,_,e0,eZ,_,Z,_,eT,e9,(gt eN e7),f.k Z,m,eV.any,fa⟩
        ·rintro a w ⟨eD,rfl,eE,eF,fb,f,m,fc⟩
         have h1:=RMf.mono mfT _ _ _ _ fb h1
         have d2:=RgF.mono fb d2
         obtain rfl:=sj d5
         exact⟨_,_,d7,d6,_,Z,_,d0,eF,(gt dU (gt ej (gt eq (gt ev fb)))),f.k Z,m,d2.any,fc⟩
      ·rintro a w ⟨dK,rfl,dL,dM,fd,f,m,fe⟩
       have h1:=RMf.mono mfT _ _ _ _ fd h1
       have aJ:=Ow.mono (RMf.mono mfT) fd aJ
       refine Aj ?_
       refine Ab f Z λa f=>Ab f Z λa f=> ?_
       have m:Mem W dL w (dM::ib am 38 [aa,ab,ac,ad]::ib an 85 [(.func (.func 37) #[] #[(pb b2_0c0)]),(.func (.func 39) #[] #[]),(.func (.func 41) #[] #[]),(.func (.func 42) #[] #[]),(.func (.func 43) #[] #[])]::ib b2_0c0 62 [v2_0c0_0]::aE::H):=m.fr 4
       obtain⟨ff,fg,m,fh⟩:=OwMf.stamp mfT fe m
       have h1:=RMf.mono mfT _ _ _ _ fg h1
       have aJ:=Ow.mono (RMf.mono mfT) fg aJ
       refine A7 (R:=(RMf eW2)) (xs:=([dK]:List Bw)) (RMf.one _) m Dz f Z Z Z (by decide) (All2.cons fh (All2.nil _)) λfi fj w a m fk f=> ?_
       have⟨fl,fm,aG⟩:=bind_some aG
       refine Bh (RMf.one _) 4 m aJ Z Dz Z (by decide) f Z Z Z (Ow.src (j:=0) fk m Z) fm λfo fp w a m fq f=>Ac f Z λa f=>Aa (Aj ?_)
       refine Ah f Z Z AB λa f=>Ab f Z λa f=>Aa ?_
       have m:=m.fr 4
       have m:=m.fr 4
       have m:Mem W ff w (ib an 85 [(.func (.func 37) #[] #[(pb b2_0c0)]),(.func (.func 39) #[] #[]),(.func (.func 41) #[] #[]),(.func (.func 42) #[] #[]),(.func (.func 43) #[] #[])]::ib b2_0c0 62 [v2_0c0_0]::fo::fi::ib am 38 [aa,ab,ac,ad]::H):=m.fr 4
       have m:=m.fr 4
       have m:Mem W ff w (ib am 38 [aa,ab,ac,ad]::ib an 85 [(.func (.func 37) #[] #[(pb b2_0c0)]),(.func (.func 39) #[] #[]),(.func (.func 41) #[] #[]),(.func (.func 42) #[] #[]),(.func (.func 43) #[] #[])]::ib b2_0c0 62 [v2_0c0_0]::fo::H):=m.eraseAt 4
       obtain rfl:=sj aG
       exact⟨_,Z,_,_,Z,_,fp,fo,(gt aI (gt a4 (gt ba (gt fd fg)))),f.k Z,m,fq⟩
     ·refine Ai f Z dp ?_
      refine Ae ?_
      refine Ah f Z Z Bj λa f=>Ac f Z λa f=>Aa ?_
      rcases Af aG with⟨fs,aG⟩|⟨fs,aG⟩
      ·refine Al f Z fs ?_
       refine Ae ?_
       refine Ab f Z λa f=>Ab f Z λa f=> ?_
       have⟨ft,fu,aG⟩:=bind_some aG
       refine A4 T35 f Z Z Z a2 fu λfv fw a fx fy f=> ?_
       subst fy
       refine Ax m Pl2 f Z Z fx λa f=> ?_
       have⟨fz,fA,aG⟩:=bind_some aG
       refine Bi 4 m aJ Z Dz f Z Z Z fA λfB a fC f=>Bk 4 m aJ Z Pl79 f Z Z fC fA λfD a fE f=>CE m fE underlying79 f Z Z λfF fG fH w a m fI fJ f=>Aa ?_
       have⟨fK,fL,aG⟩:=bind_some aG
       refine AM (λa w=>∃fM:Bw,fM=fK∧∃(fN:GH) (fO:Itm),GLe a9 fN∧Fr a 181 [(1,v1),(3,(pb am)),(5,(pb an)),(7,aD),(10,a7),(12,a0),(29,aa),(30,(iv (ae.length:Int))),(31,(iv aB))]∧Mem W fN w (ib am 38 [aa,ab,ac,ad]::ib an 85 [(.func (.func 37) #[] #[(pb b2_0c0)]),(.func (.func 39) #[] #[]),(.func (.func 41) #[] #[]),(.func (.func 42) #[] #[]),(.func (.func 43) #[] #[])]::ib b2_0c0 62 [v2_0c0_0]::aE::fO::H)∧OwMf eW2 fN fO a7 fM) ?_ ?_
       ·refine Ak ?_
        have m:=m.fr 5
        have m:=m.fr 5
        have m:Mem W a9 w (ib an 85 [(.func (.func 37) #[] #[(pb b2_0c0)]),(.func (.func 39) #[] #[]),(.func (.func 41) #[] #[]),(.func (.func 42) #[] #[]),(.func (.func 43) #[] #[])]::ib b2_0c0 62 [v2_0c0_0]::aE::fF::a6::ib am 38 [aa,ab,ac,ad]::H):=m.fr 5
        have m:=m.fr 5
        have m:Mem W a9 w (fF::ib am 38 [aa,ab,ac,ad]::ib an 85 [(.func (.func 37) #[] #[(pb b2_0c0)]),(.func (.func 39) #[] #[]),(.func (.func 41) #[] #[]),(.func (.func 42) #[] #[]),(.func (.func 43) #[] #[])]::ib b2_0c0 62 [v2_0c0_0]::aE::a6::H):=m.fr 4
        refine Df (λfP fQ a w=>∃fR:Bw,fR=fP∧∃(fS:GH) (fT:Itm) (fU:Itm),GLe a9 fS∧Fr a 181 [(1,v1),(3,(pb am)),(5,(pb an)),(7,aD),(10,a7),(12,a0),(29,aa),(30,(iv (ae.length:Int))),(31,(iv aB)),(134,fG)]∧Mem W fS w (fT::ib am 38 [aa,ab,ac,ad]::ib an 85 [(.func (.func 37) #[] #[(pb b2_0c0)]),(.func (.func 39) #[] #[]),(.func (.func 41) #[] #[]),(.func (.func 42) #[] #[]),(.func (.func 43) #[] #[])]::ib b2_0c0 62 [v2_0c0_0]::aE::fU::H)∧RgA eW2 fS fT fG fQ∧OwMf eW2 fS fU a7 fR) fL fJ ⟨_,Z,_,fF,a6,gr,f.k Z,m,fI,a8⟩ ?_
        clear fL f m
        rintro fP fQ fV a w ⟨fR,rfl,fS,fT,fU,fW,f,m,fX,fY⟩
        have h1:=RMf.mono mfT _ _ _ _ fW h1
        have a2:=rd1 fW a2
        have h2_0c0_0:=rd1 fW h2_0c0_0
        have aJ:=Ow.mono (RMf.mono mfT) fW aJ
        refine Ae ?_
        refine C1 (enc:=eW2) Mf75.inj 0 m fX Z f Z Z (λfZ a f=> ?_) λf0 f1 f2 w a f3 m f4 f=> ?_
        ·have f5:=CH fV fZ
         subst f5
         have m:Mem W fS w (ib am 38 [aa,ab,ac,ad]::ib an 85 [(.func (.func 37) #[] #[(pb b2_0c0)]),(.func (.func 39) #[] #[]),(.func (.func 41) #[] #[]),(.func (.func 42) #[] #[]),(.func (.func 43) #[] #[])]::ib b2_0c0 62 [v2_0c0_0]::aE::fU::H):=m.eraseAt 0
         refine l_o f (AF (f.e Z) Z) λa f=>Aa (Ag ?_)
         refine Ai f Z Z ?_
         refine AG Z ?_
         exact⟨_,Z,_,fU,fW,f.k Z,m,fY⟩
        ·obtain⟨f6,f7,f8⟩:=Cv fV f3
         have f9:=CX f3
         refine l_o f (AF (f.e Z) Z) λa f=>Aa (Ag ?_)
         refine Al f Z Z ?_
         refine Am ?_
         refine Ak (Ae ?_)
         refine CG 0 m f4 Z f Z Z λa f=>l_o f (AF (f.e Z) Z) λa f=>l_o f (AF (f.e Z) Z) λa f=>Bp (cs:=[(.int .u32 0),(.int .u32 0)]) zeroValue75 m f Z Z λga w a m f=>AA 0 0 (ds:=[(.int .u32 f0.1.1),(.int .u32 f0.1.2)]) m sizeOf75 f Z Z Z (Ao Z (Ao Z AK)) Z (lb Z) Z λw m=>Ac f Z λa f=>AD ?_
         refine Ab f Z λa f=>Ab f Z λa f=> ?_
         have⟨gb,gc,f7⟩:=bind_some f7
         refine A4 T35 f Z Z Z a2 gc λgd ge a gf gg f=> ?_
         subst gg
         refine Ax m Pl2 f Z Z gf λa f=> ?_
         have⟨gh,gi,f7⟩:=bind_some f7
         refine Bi 5 m aJ Z Dz f Z Z Z gi λgj a gk f=>Bk 5 m aJ Z Pl79 f Z Z gk gi λgl a gm f=>CE m gm underlying79 f Z Z λgn go gp w a m gq gs f=>Aa ?_
         have⟨gu,gv,f7⟩:=bind_some f7
         refine AM (λa w=>∃gw:Bw,gw=gu∧∃(gx:GH) (gy:Itm),GLe fS gx∧Fr a 181 [(1,v1),(3,(pb am)),(5,(pb an)),(7,aD),(10,a7),(12,a0),(21,(pb ga)),(22,(iv f0.2)),(29,aa),(30,(iv (ae.length:Int))),(31,(iv aB)),(134,fG)]∧Mem W gx w (f2::ib am 38 [aa,ab,ac,ad]::ib an 85 [(.func (.func 37) #[] #[(pb b2_0c0)]),(.func (.func 39) #[] #[]),(.func (.func 41) #[] #[]),(.func (.func 42) #[] #[]),(.func (.func 43) #[] #[])]::ib ga 75 [(.int .u32 f0.1.1),(.int .u32 f0.1.2)]::ib b2_0c0 62 [v2_0c0_0]::aE::gy::H)∧OwMf eW2 gx gy a7 gw) ?_ ?_
         ·refine Ak ?_
          have m:=m.fr 4
          have m:=m.fr 4
          have m:Mem W fS w (f2::ib am 38 [aa,ab,ac,ad]::ib an 85 [(.func (.func 37) #[] #[(pb b2_0c0)]),(.func (.func 39) #[] #[]),(.func (.func 41) #[] #[]),(.func (.func 42) #[] #[]),(.func (.func 43) #[] #[])]::gn::ib ga 75 [(.int .u32 f0.1.1),(.int .u32 f0.1.2)]::ib b2_0c0 62 [v2_0c0_0]::aE::fU::H):=m.fr 4
          have m:Mem W fS w (gn::f2::ib am 38 [aa,ab,ac,ad]::ib an 85 [(.func (.func 37) #[] #[(pb b2_0c0)]),(.func (.func 39) #[] #[]),(.func (.func 41) #[] #[]),(.func (.func 42) #[] #[]),(.func (.func 43) #[] #[])]::ib ga 75 [(.int .u32 f0.1.1),(.int .u32 f0.1.2)]::ib b2_0c0 62 [v2_0c0_0]::aE::fU::H):=m.fr 3
          refine Df (λgz gA a w=>∃gB:Bw,gB=gz∧∃(gC:GH) (gD:Itm) (gE:Itm),GLe fS gC∧Fr a 181 [(1,v1),(3,(pb am)),(5,(pb an)),(7,aD),(10,a7),(12,a0),(21,(pb ga)),(22,(iv f0.2)),(29,aa),(30,(iv (ae.length:Int))),(31,(iv aB)),(134,fG),(146,go)]∧Mem W gC w (gD::f2::ib am 38 [aa,ab,ac,ad]::ib an 85 [(.func (.func 37) #[] #[(pb b2_0c0)]),(.func (.func 39) #[] #[]),(.func (.func 41) #[] #[]),(.func (.func 42) #[] #[]),(.func (.func 43) #[] #[])]::ib ga 75 [(.int .u32 f0.1.1),(.int .u32 f0.1.2)]::ib b2_0c0 62 [v2_0c0_0]::aE::gE::H)∧RgA eW2 gC gD go gA∧OwMf eW2 gC gE a7 gB) gv gs ⟨_,Z,_,gn,fU,gr,f.k Z,m,gq,fY⟩ ?_
          clear gv f m
          rintro gz gA gF a w ⟨gB,rfl,gC,gD,gE,gG,f,m,gH,gI⟩
          have h1:=RMf.mono mfT _ _ _ _ gG h1
          have f4:=RgF.mono gG f4
          have h2_0c0_0:=rd1 gG h2_0c0_0
          refine Ae ?_
          refine C1 (enc:=eW2) Mf75.inj 0 m gH Z f Z Z (λgJ a f=> ?_) λgK gL gM w a gN m gO f=> ?_
          ·have gP:=CH gF gJ
           subst gP
           have m:Mem W gC w (f2::ib am 38 [aa,ab,ac,ad]::ib an 85 [(.func (.func 37) #[] #[(pb b2_0c0)]),(.func (.func 39) #[] #[]),(.func (.func 41) #[] #[]),(.func (.func 42) #[] #[]),(.func (.func 43) #[] #[])]::ib ga 75 [(.int .u32 f0.1.1),(.int .u32 f0.1.2)]::ib b2_0c0 62 [v2_0c0_0]::aE::gE::H):=m.eraseAt 0
           refine l_o f (AF (f.e Z) Z) λa f=>Aa (Ag ?_)
           refine Ai f Z Z ?_
           refine AG Z ?_
           exact⟨_,Z,_,gE,gG,f.k Z,m,gI⟩
          ·obtain⟨gQ,gR,gS⟩:=Cv gF gN
           have gT:=CX gN
           refine l_o f (AF (f.e Z) Z) λa f=>Aa (Ag ?_)
           refine Al f Z Z ?_
           refine Am ?_
           refine Ak (Ae ?_)
           refine CG 0 m gO Z f Z Z λa f=>l_o f (AF (f.e Z) Z) λa f=>l_o f (AF (f.e Z) Z) λa f=>Bp (cs:=[(.int .u32 0),(.int .u32 0)]) zeroValue75 m f Z Z λgU w a m f=>AA 0 0 (ds:=[(.int .u32 gK.1.1),(.int .u32 gK.1.2)]) m sizeOf75 f Z Z Z (Ao Z (Ao Z AK)) Z (lb Z) Z λw m=>Ac f Z λa f=>AD ?_
           refine AW underlying85 Z sizeOf82 f Z λa f=>As 4 2 m Pl82 f Z Z Z Z λa f=>AC 5 0 (ds:=[(.int .u32 f0.1.1),(.int .u32 f0.1.2)]) m Dx f Z Z Z Z Z λa f=>AC 0 0 (ds:=[(.int .u32 gK.1.1),(.int .u32 gK.1.2)]) m Dx f Z Z Z Z Z λa f=> ?_
           have⟨gV,gW,gR⟩:=bind_some gR
           refine CL f Z Z Z call41 (Wk.U0 m gW) λgX gY gZ w g0 m g1 a f=> ?_
           obtain⟨rfl,rfl⟩:=g1
           have h1:=RMf.mono mfT _ _ _ _ g0 h1
           have gO:=RgF.mono g0 gO
           have f4:=RgF.mono g0 f4
           have h2_0c0_0:=rd1 g0 h2_0c0_0
           have gI:=OwMf.mono mfT g0 gI
           refine Ab f Z λa f=>l_o f (AF (f.e Z) Z) λa f=>l_o f (AF (f.e Z) Z) λa f=>Bp (cs:=[(.int .u32 0),(.int .u32 0)]) zeroValue75 m f Z Z λg2 w a m f=>AA 0 0 (ds:=[(.int .u32 gV.1),(.int .u32 gV.2.1)]) m sizeOf75 f Z Z Z (Ao Z (Ao Z AK)) Z (lb Z) Z λw m=>Ac f Z λa f=>AD ?_
           refine Ab f Z λa f=>Aa ?_
           rcases Af gR with⟨g3,gR⟩|⟨g3,gR⟩
           ·refine Al f Z g3 ?_
            have m:Mem W gY w (gE::ib g2 75 [(.int .u32 gV.1),(.int .u32 gV.2.1)]::ib gU 75 [(.int .u32 gK.1.1),(.int .u32 gK.1.2)]::gM::f2::ib am 38 [aa,ab,ac,ad]::ib an 85 [(.func (.func 37) #[] #[(pb b2_0c0)]),(.func (.func 39) #[] #[]),(.func (.func 41) #[] #[]),(.func (.func 42) #[] #[]),(.func (.func 43) #[] #[])]::ib ga 75 [(.int .u32 f0.1.1),(.int .u32 f0.1.2)]::ib b2_0c0 62 [v2_0c0_0]::aE::H):=m.fr 9
            refine E8 [gE] (ib g2 75 [(.int .u32 gV.1),(.int .u32 gV.2.1)]::ib gU 75 [(.int .u32 gK.1.1),(.int .u32 gK.1.2)]::gM::f2::ib am 38 [aa,ab,ac,ad]::ib an 85 [(.func (.func 37) #[] #[(pb b2_0c0)]),(.func (.func 39) #[] #[]),(.func (.func 41) #[] #[]),(.func (.func 42) #[] #[]),(.func (.func 43) #[] #[])]::ib ga 75 [(.int .u32 f0.1.1),(.int .u32 f0.1.2)]::ib b2_0c0 62 [v2_0c0_0]::aE::H) 9 AU (by kernel_rfl) m ?_
            refine BE (i:=0) (ds:=[(.func (.func 37) #[] #[(pb b2_0c0)]),(.func (.func 39) #[] #[]),(.func (.func 41) #[] #[]),(.func (.func 42) #[] #[]),(.func (.func 43) #[] #[])]) 9 5 Ag85 Z Z Z Z (by kernel_rfl) Z f Z Z Z λa f=>An 1 9 Z f Z λa f=>BE (i:=2) (ds:=[(.int .u32 gV.1),(.int .u32 gV.2.1)]) 9 0 Dx Z Z Z Z (by kernel_rfl) Z f Z Z Z λa f=>Bt 3 9 underlying85 Z sizeOf83 Z f Z λa f=>Br 4 9 5 Pl83 Z Z Z f Z λa f=>An 5 9 Z f Z λa f=>An 6 9 Z f Z λa f=> ?_
            have⟨g4,g5,gR⟩:=bind_some gR
            refine q_callv (i:=7) 9 Z (by kernel_rfl) Z f Z Z Z Z call42 (λ_ _ w g6 m=>Wk.S m g5) λa f=>BC 8 Z λg7 w g8 m g9 g9=> ?_
            have h1:=RMf.mono mfT _ _ _ _ g8 h1
            have gI:=OwMf.mono mfT g8 gI
            have gO:=RgF.mono g8 gO
            have f4:=RgF.mono g8 f4
            have h2_0c0_0:=rd1 g8 h2_0c0_0
            have m:Mem W g7 w (ib b2_0c0 62 [v2_0c0_0]::gE::ib g2 75 [(.int .u32 gV.1),(.int .u32 gV.2.1)]::ib gU 75 [(.int .u32 gK.1.1),(.int .u32 gK.1.2)]::gM::f2::ib am 38 [aa,ab,ac,ad]::ib an 85 [(.func (.func 37) #[] #[(pb b2_0c0)]),(.func (.func 39) #[] #[]),(.func (.func 41) #[] #[]),(.func (.func 42) #[] #[]),(.func (.func 43) #[] #[])]::ib ga 75 [(.int .u32 f0.1.1),(.int .u32 f0.1.2)]::aE::H):=m.fr 8
            have⟨ha,hb,gR⟩:=bind_some gR
            refine AX f Z call86 (Wk.J m h2_0c0_0 gI hb) λhc he hf w hg m hh a f=> ?_
            obtain⟨hi,rfl,hj⟩:=hh
            have h1:=RMf.mono mfT _ _ _ _ hg h1
            have gO:=RgF.mono hg gO
            have f4:=RgF.mono hg f4
            refine Aa ?_
            have m:=m.fr 8
            have m:=m.fr 8
            have m:Mem W he w (ib am 38 [aa,ab,ac,ad]::ib an 85 [(.func (.func 37) #[] #[(pb b2_0c0)]),(.func (.func 39) #[] #[]),(.func (.func 41) #[] #[]),(.func (.func 42) #[] #[]),(.func (.func 43) #[] #[])]::ib ga 75 [(.int .u32 f0.1.1),(.int .u32 f0.1.2)]::ib b2_0c0 62 [v2_0c0_0]::hi::ib g2 75 [(.int .u32 gV.1),(.int .u32 gV.2.1)]::ib gU 75 [(.int .u32 gK.1.1),(.int .u32 gK.1.2)]::gM::f2::aE::H):=m.fr 8
            have m:=m.fr 8
            have m:=m.fr 8
            have m:Mem W he w (ib gU 75 [(.int .u32 gK.1.1),(.int .u32 gK.1.2)]::gM::f2::ib am 38 [aa,ab,ac,ad]::ib an 85 [(.func (.func 37) #[] #[(pb b2_0c0)]),(.func (.func 39) #[] #[]),(.func (.func 41) #[] #[]),(.func (.func 42) #[] #[]),(.func (.func 43) #[] #[])]::ib ga 75 [(.int .u32 f0.1.1),(.int .u32 f0.1.2)]::ib b2_0c0 62 [v2_0c0_0]::hi::ib g2 75 [(.int .u32 gV.1),(.int .u32 gV.2.1)]::aE::H):=m.fr 8
            have m:=m.fr 8
            have m:Mem W he w (hi::ib g2 75 [(.int .u32 gV.1),(.int .u32 gV.2.1)]::ib gU 75 [(.int .u32 gK.1.1),(.int .u32 gK.1.2)]::gM::f2::ib am 38 [aa,ab,ac,ad]::ib an 85 [(.func (.func 37) #[] #[(pb b2_0c0)]),(.func (.func 39) #[] #[]),(.func (.func 41) #[] #[]),(.func (.func 42) #[] #[]),(.func (.func 43) #[] #[])]::ib ga 75 [(.int .u32 f0.1.1),(.int .u32 f0.1.2)]::ib b2_0c0 62 [v2_0c0_0]::aE::H):=m.fr 8
            refine g9 he [hi] _ _ hg m ?_
            refine A2 λhk w hl m=> ?_
            have h1:=RMf.mono mfT _ _ _ _ hl h1
            have hj:=OwMf.mono mfT hl hj
            have gO:=RgF.mono hl gO
            have f4:=RgF.mono hl f4
            refine Aa ?_
            have m:=m.fr 9
            have m:=m.fr 9
            have m:Mem W hk w (ib ga 75 [(.int .u32 f0.1.1),(.int .u32 f0.1.2)]::ib b2_0c0 62 [v2_0c0_0]::aE::hi::ib g2 75 [(.int .u32 gV.1),(.int .u32 gV.2.1)]::ib gU 75 [(.int .u32 gK.1.1),(.int .u32 gK.1.2)]::gM::f2::ib am 38 [aa,ab,ac,ad]::ib an 85 [(.func (.func 37) #[] #[(pb b2_0c0)]),(.func (.func 39) #[] #[]),(.func (.func 41) #[] #[]),(.func (.func 42) #[] #[]),(.func (.func 43) #[] #[])]::H):=m.fr 9
            have m:=m.fr 9
            have m:=m.fr 9
            have m:Mem W hk w (f2::ib am 38 [aa,ab,ac,ad]::ib an 85 [(.func (.func 37) #[] #[(pb b2_0c0)]),(.func (.func 39) #[] #[]),(.func (.func 41) #[] #[]),(.func (.func 42) #[] #[]),(.func (.func 43) #[] #[])]::ib ga 75 [(.int .u32 f0.1.1),(.int .u32 f0.1.2)]::ib b2_0c0 62 [v2_0c0_0]::aE::hi::ib g2 75 [(.int .u32 gV.1),(.int .u32 gV.2.1)]::ib gU 75 [(.int .u32 gK.1.1),(.int .u32 gK.1.2)]::gM::H):=m.fr 9
            have m:=m.fr 9
            have m:=m.eraseAt 9
            have m:Mem W hk w (gM::f2::ib am 38 [aa,ab,ac,ad]::ib an 85 [(.func (.func 37) #[] #[(pb b2_0c0)]),(.func (.func 39) #[] #[]),(.func (.func 41) #[] #[]),(.func (.func 42) #[] #[]),(.func (.func 43) #[] #[])]::ib ga 75 [(.int .u32 f0.1.1),(.int .u32 f0.1.2)]::ib b2_0c0 62 [v2_0c0_0]::aE::hi::H):=m.eraseAt 8
            obtain rfl:=sj gR
            exact⟨_,_,gT,gS,_,Z,_,gM,hi,(gt gG (gt g0 (gt g8 (gt hg hl)))),f.k Z,m,gO.any,hj⟩
           ·refine Ai f Z g3 ?_
            refine Am ?_
            have m:=m.fr 9
            have m:=m.fr 9
            have m:Mem W gY w (ib b2_0c0 62 [v2_0c0_0]::aE::gE::ib g2 75 [(.int .u32 gV.1),(.int .u32 gV.2.1)]::ib gU 75 [(.int .u32 gK.1.1),(.int .u32 gK.1.2)]::gM::f2::ib am 38 [aa,ab,ac,ad]::ib an 85 [(.func (.func 37) #[] #[(pb b2_0c0)]),(.func (.func 39) #[] #[]),(.func (.func 41) #[] #[]),(.func (.func 42) #[] #[]),(.func (.func 43) #[] #[])]::ib ga 75 [(.int .u32 f0.1.1),(.int .u32 f0.1.2)]::H):=m.fr 9
            have m:=m.fr 9
            have m:=m.fr 9
            have m:Mem W gY w (ib am 38 [aa,ab,ac,ad]::ib an 85 [(.func (.func 37) #[] #[(pb b2_0c0)]),(.func (.func 39) #[] #[]),(.func (.func 41) #[] #[]),(.func (.func 42) #[] #[]),(.func (.func 43) #[] #[])]::ib ga 75 [(.int .u32 f0.1.1),(.int .u32 f0.1.2)]::ib b2_0c0 62 [v2_0c0_0]::aE::gE::ib g2 75 [(.int .u32 gV.1),(.int .u32 gV.2.1)]::ib gU 75 [(.int .u32 gK.1.1),(.int .u32 gK.1.2)]::gM::f2::H):=m.fr 9
            have m:=m.fr 9
            have m:=m.fr 9
            have m:Mem W gY w (gM::f2::ib am 38 [aa,ab,ac,ad]::ib an 85 [(.func (.func 37) #[] #[(pb b2_0c0)]),(.func (.func 39) #[] #[]),(.func (.func 41) #[] #[]),(.func (.func 42) #[] #[]),(.func (.func 43) #[] #[])]::ib ga 75 [(.int .u32 f0.1.1),(.int .u32 f0.1.2)]::ib b2_0c0 62 [v2_0c0_0]::aE::gE::ib g2 75 [(.int .u32 gV.1),(.int .u32 gV.2.1)]::H):=m.eraseAt 9
            have m:Mem W gY w (gM::f2::ib am 38 [aa,ab,ac,ad]::ib an 85 [(.func (.func 37) #[] #[(pb b2_0c0)]),(.func (.func 39) #[] #[]),(.func (.func 41) #[] #[]),(.func (.func 42) #[] #[]),(.func (.func 43) #[] #[])]::ib ga 75 [(.int .u32 f0.1.1),(.int .u32 f0.1.2)]::ib b2_0c0 62 [v2_0c0_0]::aE::gE::H):=m.eraseAt 8
            obtain rfl:=sj gR
            exact⟨_,_,gT,gS,_,Z,_,gM,gE,(gt gG g0),f.k Z,m,gO.any,gI⟩
         ·rintro a w ⟨gw,rfl,gx,gy,hm,f,m,hn⟩
          have h1:=RMf.mono mfT _ _ _ _ hm h1
          have f4:=RgF.mono hm f4
          have m:=m.fr 6
          have m:=m.fr 6
          have m:Mem W gx w (ib b2_0c0 62 [v2_0c0_0]::aE::gy::f2::ib am 38 [aa,ab,ac,ad]::ib an 85 [(.func (.func 37) #[] #[(pb b2_0c0)]),(.func (.func 39) #[] #[]),(.func (.func 41) #[] #[]),(.func (.func 42) #[] #[]),(.func (.func 43) #[] #[])]::ib ga 75 [(.int .u32 f0.1.1),(.int .u32 f0.1.2)]::H):=m.fr 6
          have m:=m.fr 5
          have m:=m.fr 5
          have m:Mem W gx w (f2::ib am 38 [aa,ab,ac,ad]::ib an 85 [(.func (.func 37) #[] #[(pb b2_0c0)]),(.func (.func 39) #[] #[]),(.func (.func 41) #[] #[]),(.func (.func 42) #[] #[]),(.func (.func 43) #[] #[])]::ib b2_0c0 62 [v2_0c0_0]::aE::gy::ib ga 75 [(.int .u32 f0.1.1),(.int .u32 f0.1.2)]::H):=m.fr 5
          have m:Mem W gx w (f2::ib am 38 [aa,ab,ac,ad]::ib an 85 [(.func (.func 37) #[] #[(pb b2_0c0)]),(.func (.func 39) #[] #[]),(.func (.func 41) #[] #[]),(.func (.func 42) #[] #[]),(.func (.func 43) #[] #[])]::ib b2_0c0 62 [v2_0c0_0]::aE::gy::H):=m.eraseAt 6
          obtain rfl:=sj f7
          exact⟨_,_,f9,f8,_,Z,_,f2,gy,(gt fW hm),f.k Z,m,f4.any,hn⟩
       ·rintro a w ⟨fM,rfl,fN,fO,ho,f,m,hp⟩
        have h1:=RMf.mono mfT _ _ _ _ ho h1
        have aJ:=Ow.mono (RMf.mono mfT) ho aJ
        refine Aj ?_
        refine Ab f Z λa f=>Ab f Z λa f=> ?_
        have m:Mem W fN w (fO::ib am 38 [aa,ab,ac,ad]::ib an 85 [(.func (.func 37) #[] #[(pb b2_0c0)]),(.func (.func 39) #[] #[]),(.func (.func 41) #[] #[]),(.func (.func 42) #[] #[]),(.func (.func 43) #[] #[])]::ib b2_0c0 62 [v2_0c0_0]::aE::H):=m.fr 4
        obtain⟨hq,hr,m,hs⟩:=OwMf.stamp mfT hp m
        have h1:=RMf.mono mfT _ _ _ _ hr h1
        have aJ:=Ow.mono (RMf.mono mfT) hr aJ
        refine A7 (R:=(RMf eW2)) (xs:=([fM]:List Bw)) (RMf.one _) m Dz f Z Z Z (by decide) (All2.cons hs (All2.nil _)) λht hu w a m hv f=> ?_
        have⟨hw,hx,aG⟩:=bind_some aG
        refine Bh (RMf.one _) 4 m aJ Z Dz Z (by decide) f Z Z Z (Ow.src (j:=0) hv m Z) hx λhy hz w a m hA f=>Ac f Z λa f=>Aa (Aj ?_)
        refine Ah f Z Z AB λa f=>Ab f Z λa f=>Aa ?_
        have m:=m.fr 4
        have m:=m.fr 4
        have m:Mem W hq w (ib an 85 [(.func (.func 37) #[] #[(pb b2_0c0)]),(.func (.func 39) #[] #[]),(.func (.func 41) #[] #[]),(.func (.func 42) #[] #[]),(.func (.func 43) #[] #[])]::ib b2_0c0 62 [v2_0c0_0]::hy::ht::ib am 38 [aa,ab,ac,ad]::H):=m.fr 4
        have m:=m.fr 4
        have m:Mem W hq w (ib am 38 [aa,ab,ac,ad]::ib an 85 [(.func (.func 37) #[] #[(pb b2_0c0)]),(.func (.func 39) #[] #[]),(.func (.func 41) #[] #[]),(.func (.func 42) #[] #[]),(.func (.func 43) #[] #[])]::ib b2_0c0 62 [v2_0c0_0]::hy::H):=m.eraseAt 4
        obtain rfl:=sj aG
        exact⟨_,Z,_,_,Z,_,hz,hy,(gt aI (gt a4 (gt ba (gt ho hr)))),f.k Z,m,hA⟩
      ·refine Ai f Z fs ?_
       refine Am ?_
       refine Aj ?_
       refine Ab f Z λa f=>Ab f Z λa f=> ?_
       obtain⟨hB,hC,m,hD⟩:=OwMf.stamp mfT a8 m
       have h1:=RMf.mono mfT _ _ _ _ hC h1
       have aJ:=Ow.mono (RMf.mono mfT) hC aJ
       refine A7 (R:=(RMf eW2)) (xs:=([(mf0:Bw)]:List Bw)) (RMf.one _) m Dz f Z Z Z (by decide) (All2.cons hD (All2.nil _)) λhE hF w a m hG f=> ?_
       have⟨hH,hI,aG⟩:=bind_some aG
       refine Bh (RMf.one _) 4 m aJ Z Dz Z (by decide) f Z Z Z (Ow.src (j:=0) hG m Z) hI λhJ hK w a m hL f=>Ac f Z λa f=>Aa (Aj ?_)
       refine Ah f Z Z AB λa f=>Ab f Z λa f=>Aa ?_
       have m:=m.fr 4
       have m:=m.fr 4
       have m:Mem W hB w (ib an 85 [(.func (.func 37) #[] #[(pb b2_0c0)]),(.func (.func 39) #[] #[]),(.func (.func 41) #[] #[]),(.func (.func 42) #[] #[]),(.func (.func 43) #[] #[])]::ib b2_0c0 62 [v2_0c0_0]::hJ::hE::ib am 38 [aa,ab,ac,ad]::H):=m.fr 4
       have m:=m.fr 4
       have m:Mem W hB w (ib am 38 [aa,ab,ac,ad]::ib an 85 [(.func (.func 37) #[] #[(pb b2_0c0)]),(.func (.func 39) #[] #[]),(.func (.func 41) #[] #[]),(.func (.func 42) #[] #[]),(.func (.func 43) #[] #[])]::ib b2_0c0 62 [v2_0c0_0]::hJ::H):=m.eraseAt 4
       obtain rfl:=sj aG
       exact⟨_,Z,_,_,Z,_,hK,hJ,(gt aI (gt a4 (gt ba hC))),f.k Z,m,hL⟩
  ·refine Ai f Z aK ?_
   refine AG Z ?_
   have m:=m.fr 3
   have m:=m.fr 3
   have m:Mem W aC w (ib b2_0c0 62 [v2_0c0_0]::aE::ib am 38 [aa,ab,ac,ad]::H):=m.eraseAt 3
   have m:=m.eraseAt 2
   obtain rfl:=sj aG
   obtain rfl:=aH _ rfl
   exact⟨_,Z,_,aD,aE,aI,f.k Z,m,aJ⟩
 ·rintro a w ⟨av,rfl,aw,ax,ay,hM,f,m,hN⟩
  refine Ae ?_
  refine Ab f Z λa f=>Ab f Z λa f=>B4 1 m hN Z underlying121 f Z Z λa f=>Ah f Z Z Ck λa f=> ?_
  have⟨hO,hP,hd⟩:=bind_some hd
  refine Bi 1 m hN Z Dz f Z Z Z hP λhQ a hR f=>Bk 1 m hN Z Pl79 f Z Z hR hP λhS a hT f=>Ac f Z λa f=>Aa ?_
  refine Ap ?_
  have m:=m.eraseAt 1
  obtain rfl:=sj hd
  exact⟨[hS],f.g Z,f.d,_,[ib b2_0c0 62 [v2_0c0_0]],hM,m,_,Z,Z,hT⟩
theorem Wk.b {aa ab ac ad ae:Value}{af:LL}{ag ah:LI}{ai aj:LL}(m:Mem W G w (H))(ak:R2 G aa af)(al:R1 G ab ag)(am:R1 G ac ah)(an:R2 G ad ai)(ao:R2 G ae aj){y:Int}(hd:D.b af ag ah ai aj=some y):
  Calls prog 11 #[(.agg #[aa]),(.agg #[ab,ac,ad,ae])] w (Res W G H (λ_ Ho v=>Ho=[]∧v=(iv y))):=by
 refine Au (args:=[(.agg #[aa]),(.agg #[ab,ac,ad,ae])]) (N:=28) [.tmp 4] func11 Z Z (lb Z) Z λa f=> ?_
 unfold D.b at hd
 refine Ae ?_
 refine Bo (cs:=[aa]) m f Z Z Z λap w a m f=>Bo (cs:=[ab,ac,ad,ae]) m f Z Z Z λaq w a m f=>Ac f Z λa f=>Aa (Ag (Ae ?_))
 refine AC 1 0 (ds:=[aa]) m Bv f Z Z Z Z Z λa f=>AC 0 0 (ds:=[ab,ac,ad,ae]) m DJ f Z Z Z Z Z λa f=> ?_
 have⟨ar,au,hd⟩:=bind_some hd
 refine Bd f Z call34 (Wk.q m ak al am an ao au) λav w aw m a f=> ?_
 have ak:=rd2 aw ak
 have al:=rd1 aw al
 have am:=rd1 aw am
 have an:=rd2 aw an
 have ao:=rd2 aw ao
 refine l_o f (By (f.e Z)) λa f=>Ab f Z λa f=> ?_
 have⟨ax,ay,hd⟩:=bind_some hd
 refine Bx 4 (λa w=>∃az,GLe av az∧Mem W az w (ib aq 38 [ab,ac,ad,ae]::ib ap 29 [aa]::H)∧Fr a 28 [(0,(.agg #[aa])),(1,(.agg #[ab,ac,ad,ae])),(2,(pb ap)),(3,(pb aq)),(7,(.agg #[aa])),(8,(.agg #[ab,ac,ad,ae])),(9,(.bool ar)),(10,(.bool (!ar))),(11,(.bool (!ar))),(15,(.bool ax))]) ?_ ?_
 ·rcases Af ay with⟨aA,ay⟩|⟨aA,ay⟩
  ·refine Ar f aA λa f=> ?_
   refine Ar f aA λa f=>Ar f aA λa f=>l_o f (AI (f.e Z) aA (f.e Z)) λa f=> ?_
   obtain rfl:=sj ay
   exact⟨_,gr,m,f.k Z⟩
  ·refine Aq f aA ?_
   refine AW underlying38 Z sizeOf27 f Z λa f=>Aq f aA ?_
   refine As 0 2 m Be f Z Z Z Z λa f=>Aq f aA ?_
   have⟨aB,aC,ay⟩:=bind_some ay
   refine Bd f Z call24 (Wk.t0 m an aC) λaD w aE m a f=>l_o f (AJ (f.e Z) aA (f.e Z)) λa f=> ?_
   obtain rfl:=sj ay
   exact⟨_,aE,m,f.k Z⟩
 ·rintro a w ⟨az,aF,m,f⟩
  have ak:=rd2 aF ak
  have al:=rd1 aF al
  have am:=rd1 aF am
  have an:=rd2 aF an
  have ao:=rd2 aF ao
  refine Aa ?_
  rcases Af hd with⟨aG,hd⟩|⟨aG,hd⟩
  ·refine Al f Z aG ?_
   refine Ae ?_
   refine Ac f Z λa f=>Aa ?_
   refine Ap ?_
   have m:Mem W az w H:=Mem.drop (H':=[ib aq 38 [ab,ac,ad,ae],ib ap 29 [aa]]) m
   obtain rfl:=sj hd
   exact⟨[(iv (-1))],f.g Z,f.d,_,[],(gt aw aF),m,Z,Z⟩
  ·refine Ai f Z aG ?_
   refine Am ?_
   refine Ae ?_
   refine AC 1 0 (ds:=[aa]) m Bv f Z Z Z Z Z λa f=> ?_
   have⟨aH,aI,hd⟩:=bind_some hd
   refine AX f Z call36 (Wk.u m ak aI) λaJ aK aL w aM m aN a f=> ?_
   obtain⟨aO,aP,rfl,rfl,aQ⟩:=aN
   have al:=rd1 aM al
   have am:=rd1 aM am
   have an:=rd2 aM an
   have ao:=rd2 aM ao
   refine Bp (cs:=[sn]) zeroValue62 m f Z Z λaR w a m f=>AA 0 0 (ds:=[aO]) m sizeOf62 f Z Z (Ow.cells 1 m aQ Z) (Ao (Ow.one1 1 m aQ Z) AK) Z (lb Z) Z λw m=>AD ?_
   refine Ek f Z Z Z λa f=> ?_
   have aS:∀w,(Instr.build 85 #[(0,(.func (.func 37) #[] #[(pb aR)])),(1,(.func (.func 39) #[] #[])),(2,(.func (.func 41) #[] #[])),(3,(.func (.func 42) #[] #[])),(4,(.func (.func 43) #[] #[]))]).run prog w= .ok (.agg #[(.func (.func 37) #[] #[(pb aR)]),(.func (.func 39) #[] #[]),(.func (.func 41) #[] #[]),(.func (.func 42) #[] #[]),(.func (.func 43) #[] #[])]) w:=by intro w;simp[Instr.build,Instr.fill,BX,BQ,BD,BI,BA,BW,BP]
   refine CS f Z Z aS λa f=>Bp (cs:=[.nilFunc,.nilFunc,.nilFunc,.nilFunc,.nilFunc]) zeroValue85 m f Z Z λaT w a m f=>AA 0 0 (ds:=[(.func (.func 37) #[] #[(pb aR)]),(.func (.func 39) #[] #[]),(.func (.func 41) #[] #[]),(.func (.func 42) #[] #[]),(.func (.func 43) #[] #[])]) m sizeOf85 f Z Z Z (Ao Z (Ao Z (Ao Z (Ao Z (Ao Z AK))))) Z (lb Z) Z λw m=>Aa (Ag ?_)
   have m:Mem W aK w (aP::ib aT 85 [(.func (.func 37) #[] #[(pb aR)]),(.func (.func 39) #[] #[]),(.func (.func 41) #[] #[]),(.func (.func 42) #[] #[]),(.func (.func 43) #[] #[])]::ib aR 62 [aO]::ib aq 38 [ab,ac,ad,ae]::ib ap 29 [aa]::H):=m.fr 2
   obtain⟨aU,aV,m,aW⟩:=Ow.stamp (RI.mono _) aQ m
   have al:=rd1 aV al
   have am:=rd1 aV am
   have an:=rd2 aV an
   have ao:=rd2 aV ao
   refine Bf 8 AU (by kernel_rfl) m ?_
   refine BE (i:=0) (ds:=[ab,ac,ad,ae]) 8 2 DJ Z Z Z Z (by kernel_rfl) Z f Z Z Z λa f=> ?_
   have aX:∀w,(Instr.build 75 #[]).run prog w= .ok (.agg #[(.int .u32 0),(.int .u32 0)]) w:=by intro w;simp[Instr.build,Instr.fill,BX,BQ,BD,BI,BA,BW,BP]
   refine q_p 2 8 Z f (λ_=>Fl f Z aX) λa f=>BE (i:=5) (ds:=[(.func (.func 37) #[] #[(pb aR)]),(.func (.func 39) #[] #[]),(.func (.func 41) #[] #[]),(.func (.func 42) #[] #[]),(.func (.func 43) #[] #[])]) 8 0 Ag85 Z Z Z Z (by kernel_rfl) Z f Z Z Z λa f=> ?_
   have aY:∀w,(Instr.build 75 #[]).run prog w= .ok (.agg #[(.int .u32 0),(.int .u32 0)]) w:=by intro w;simp[Instr.build,Instr.fill,BX,BQ,BD,BI,BA,BW,BP]
   refine q_p 7 8 Z f (λ_=>Fl f Z aY) λa f=>BC 1 Z λaZ w a0 m a1 a1=> ?_
   have al:=rd1 a0 al
   have am:=rd1 a0 am
   have an:=rd2 a0 an
   have ao:=rd2 a0 ao
   have aW:=rd1 a0 aW
   refine D8 eW2 m f Z λa2 a3 w a m a4 f=>Aa ?_
   refine a1 aZ [a2] _ _ gr m ?_
   refine BC 3 Z λa5 w a6 m a7 a7=> ?_
   have al:=rd1 a6 al
   have am:=rd1 a6 am
   have an:=rd2 a6 an
   have ao:=rd2 a6 ao
   have a4:=OwMf.mono mfT a6 a4
   have aW:=rd1 a6 aW
   refine FQ Mf75 (i:=(0,0)) 0 m a4 Z underlying79 f Z Z Z λa8 w m a9=>Aa ?_
   refine a7 a5 [a8] _ _ gr m ?_
   refine An 4 8 Z f Z λa f=>BC 6 Z λba w bb m bc bc=> ?_
   have al:=rd1 bb al
   have am:=rd1 bb am
   have an:=rd2 bb an
   have ao:=rd2 bb ao
   have a9:=OwMf.mono mfT bb a9
   have aW:=rd1 bb aW
   obtain⟨bd,be,m,bf⟩:=OwMf.stamp mfT a9 m
   have al:=rd1 be al
   have am:=rd1 be am
   have an:=rd2 be an
   have ao:=rd2 be ao
   have aW:=rd1 be aW
   have m:Mem W bd w (ib aR 62 [aO]::ib aT 85 [(.func (.func 37) #[] #[(pb aR)]),(.func (.func 39) #[] #[]),(.func (.func 41) #[] #[]),(.func (.func 42) #[] #[]),(.func (.func 43) #[] #[])]::ib aq 38 [ab,ac,ad,ae]::ib ap 29 [aa]::H):=m.fr 1
   have⟨bg,bh,hd⟩:=bind_some hd
   refine AX f Z call44 (Wk.s0 m al am an ao bf aW bh) λbi bj bk w bl m bm a f=> ?_
   obtain⟨bn,rfl,rfl,bo⟩:=bm
   have bf:=RMf.mono mfT _ _ _ _ bl bf
   refine Aa ?_
   have m:Mem W bj w (ib aT 85 [(.func (.func 37) #[] #[(pb aR)]),(.func (.func 39) #[] #[]),(.func (.func 41) #[] #[]),(.func (.func 42) #[] #[]),(.func (.func 43) #[] #[])]::ib aR 62 [aO]::ib aq 38 [ab,ac,ad,ae]::ib ap 29 [aa]::H):=m.fr 1
   refine bc bj [] _ _ (gt be bl) m ?_
   refine A2 λbp w bq m=> ?_
   have bf:=RMf.mono mfT _ _ _ _ bq bf
   have bo:=RMf.mono mfT _ _ _ _ bq bo
   refine l_lookRMf0 Mf75 (i:=(0,0)) m bo underlying79 zeroValue2 f Z Z Z λa f=>Ac f Z λa f=>Aa ?_
   refine Ap ?_
   have m:Mem W bp w H:=Mem.drop (H':=[ib aT 85 [(.func (.func 37) #[] #[(pb aR)]),(.func (.func 39) #[] #[]),(.func (.func 41) #[] #[]),(.func (.func 42) #[] #[]),(.func (.func 43) #[] #[])],ib aR 62 [aO],ib aq 38 [ab,ac,ad,ae],ib ap 29 [aa]]) m
   obtain rfl:=sj hd
   exact⟨[(iv ((bg (0,0)).getD 0))],f.g Z,f.d,_,[],(gt aw (gt aF (gt aM (gt aV (gt a0 (gt a6 (gt bb (gt be (gt bl bq))))))))),m,Z,Z⟩
theorem Wk.g1 {x0 x1 x2:Int}(m:Mem W G w (H)){y:(LI)}(hd:D.g1 x0 x1 x2=some y):
  Calls prog 45 #[(.int .u32 x0),(iv x1),(.int .u32 x2)] w (Res W G H (λG' Ho v=>∃r0:Value,∃i0:Itm,Ho=[i0]∧r0=v∧Ow (RI .u32) 69 G' i0 r0 y)):=by
 refine Au (args:=[(.int .u32 x0),(iv x1),(.int .u32 x2)]) (N:=9) [.tmp 6] func45 Z Z (lb Z) Z λa f=> ?_
 unfold D.g1 at hd
 refine Ae ?_
 refine Ac f Z λa f=>AD ?_
 refine Ab f Z λa f=>A7 (R:=(RI .u32)) (xs:=([x0]:LI)) (RI.one _) m T60 f Z Z Z (by decide) (All2.cons Z (All2.nil _)) λaa ab w a m ac f=>Ac f Z λa f=>Aa ?_
 refine Ap ?_
 obtain rfl:=sj hd
 exact⟨[ab],f.g Z,f.d,_,[aa],gr,m,_,_,Z,Z,ac⟩
theorem Wk.W0 {x0 x1:Int}(m:Mem W G w (H)){y:Int×Bool}(hd:D.W0 x0 x1=some y):
  Calls prog 48 #[(.int .u32 x0),(.int .u32 x1)] w (Res W G H (λ_ Ho v=>Ho=[]∧v= .tuple #[(.int .u32 y.1),(.bool y.2)])):=by
 refine Au (args:=[(.int .u32 x0),(.int .u32 x1)]) (N:=13) [.tmp 4,.tmp 5] func48 Z Z (lb Z) Z λa f=> ?_
 unfold D.W0 at hd
 refine Ae ?_
 refine Ac f Z λa f=>Ac f Z λa f=>AD ?_
 refine Ab f Z λa f=>Ab f Z λa f=>Ah f Z Z Db λa f=>Ab f Z λa f=>Ab f Z λa f=>Ah f Z Z CC λa f=>Ah f Z Z Bj λa f=>Ac f Z λa f=>Ac f Z λa f=>Aa ?_
 refine Ap ?_
 obtain rfl:=sj hd
 exact⟨[(.int .u32 (ior .u32 x0 x1)),(.bool ((iand .u32 x0 x1)==0))],⟨f.get _ _ Z,f.get _ _ Z,trivial⟩,f.d,_,[],gr,m,Z,Z⟩
theorem Wk.k1 {x0 x1:Int}(m:Mem W G w (H)){y:Int}(hd:D.k1 x0 x1=some y):
  Calls prog 49 #[(iv x0),(iv x1)] w (Res W G H (λ_ Ho v=>Ho=[]∧v=(iv y))):=by
 refine Au (args:=[(iv x0),(iv x1)]) (N:=8) [.tmp 4] func49 Z Z (lb Z) Z λa f=> ?_
 unfold D.k1 at hd
 refine Ae ?_
 refine Ac f Z λa f=>AD ?_
 refine Ab f Z λa f=>Ab f Z λa f=>Ah f Z Z b_mul λa f=>Ac f Z λa f=>Aa ?_
 refine Ap ?_
 obtain rfl:=sj hd
 exact⟨[(iv (i64.wrap (x0*x1)))],f.g Z,f.d,_,[],gr,m,Z,Z⟩
theorem Wk.E {b0_1c0:Nat}{v0_1c0_0 v1:Value}{it1:Itm}{x0_1c0_0:LI}{x1:A5}{x2 x3:Int}(m:Mem W G w (ib b0_1c0 62 [v0_1c0_0]::it1::H))(h0_1c0_0:RSl (RI .u32) G v0_1c0_0 x0_1c0_0)(o1:OwMf BL G it1 v1 x1){y:A5}(hd:D.E x0_1c0_0 x1 x2 x3=some y):
  Calls prog 88 #[(.agg #[(.func (.func 45) #[] #[]),(.func (.func 46) #[] #[(pb b0_1c0)]),(.func (.func 48) #[] #[]),(.func (.func 49) #[] #[]),(.func (.func 42) #[] #[])]),v1,(.int .u32 x2),(iv x3)] w (Res W G H (λG' Ho _=>∃i0:Itm,Ho=[ib b0_1c0 62 [v0_1c0_0],i0]∧OwMf BL G' i0 v1 y)):=by
 refine Au (args:=[(.agg #[(.func (.func 45) #[] #[]),(.func (.func 46) #[] #[(pb b0_1c0)]),(.func (.func 48) #[] #[]),(.func (.func 49) #[] #[]),(.func (.func 42) #[] #[])]),v1,(.int .u32 x2),(iv x3)]) (N:=25) [] func88 Z Z (lb Z) Z λa f=> ?_
 unfold D.E at hd
 refine Ae ?_
 refine Bo (cs:=[(.func (.func 45) #[] #[]),(.func (.func 46) #[] #[(pb b0_1c0)]),(.func (.func 48) #[] #[]),(.func (.func 49) #[] #[]),(.func (.func 42) #[] #[])]) m f Z Z Z λaa w a m f=>Aa (Ag (Ae ?_))
 refine Ab f Z λa f=>Ab f Z λa f=>l_lookMf1 Mf69 (i:=x2) 2 m o1 Z underlying88 zeroValue2 f Z Z Z λa f=>Ab f Z λa f=>l_o f (AF (f.e Z) Z) λa f=>l_o f (AF (f.e Z) Z) λa f=>Ac f Z λa f=>Ac f Z λa f=>AD ?_
 refine Ab f Z λa f=>Aa ?_
 rcases Af hd with⟨ab,hd⟩|⟨ab,hd⟩
 ·refine Al f Z ab ?_
  refine Aj ?_
  refine AW underlying94 Z sizeOf83 f Z λa f=>As 0 4 m Pl83 f Z Z Z Z λa f=>Ab f Z λa f=>Ab f Z λa f=> ?_
  have⟨ac,ad,hd⟩:=bind_some hd
  refine CL f Z Z Z call42 (Wk.S m ad) λae af ag w ah m ai a f=> ?_
  obtain⟨rfl,rfl⟩:=ai
  have o1:=OwMf.mono mfT ah o1
  refine Ac f Z λa f=>Aa (Aj ?_)
  refine Ab f Z λa f=>Ab f Z λa f=>Ab f Z λa f=>Fe Mf69 (i:=x2) 2 m o1 Z underlying88 f Z Z Z λaj w m ak=>Aa ?_
  have m:=m.fr 2
  have m:=m.fr 2
  have m:=m.eraseAt 2
  obtain rfl:=sj hd
  exact⟨[],trivial,f.d,_,[ib b0_1c0 62 [v0_1c0_0],aj],ah,m,_,Z,ak⟩
 ·refine Ai f Z ab ?_
  refine Am ?_
  refine Aj ?_
  refine Ab f Z λa f=>Ab f Z λa f=>Ab f Z λa f=>Fe Mf69 (i:=x2) 2 m o1 Z underlying88 f Z Z Z λal w m am=>Aa ?_
  have m:=m.fr 2
  have m:=m.fr 2
  have m:=m.eraseAt 2
  obtain rfl:=sj hd
  exact⟨[],trivial,f.d,_,[ib b0_1c0 62 [v0_1c0_0],al],gr,m,_,Z,am⟩
theorem Wk.y0 {b4:Nat}{aa:Value}{x0 x1 x2 x3:Int}{ab:LI}(hW:Dc W)(m:Mem W G w (ib b4 62 [aa]::H))(ac:RSl (RI .u32) G aa ab){y:A5}(hd:D.y0 x0 x1 x2 x3 ab=some y):
  Calls prog 46 #[(.int .u32 x0),(iv x1),(.int .u32 x2),(iv x3),(pb b4)] w (Res W G H (λG' Ho v=>∃r0:Value,∃i0:Itm,Ho=[i0,ib b4 62 [aa]]∧r0=v∧OwMf BL G' i0 r0 y)):=by
 refine Au (args:=[(.int .u32 x0),(iv x1),(.int .u32 x2),(iv x3),(pb b4)]) (N:=46) [.tmp 9] func46 Z Z (lb Z) Z λa f=> ?_
 unfold D.y0 at hd
 refine Ae ?_
 refine Ac f Z λa f=>AD ?_
 refine D8 BL m f Z λad ae w a m af f=>Ab f Z λa f=>Ab f Z λa f=> ?_
 have⟨ag,ah,hd⟩:=bind_some hd
 refine Bd f Z call38 (Wk.a m ah) λai w aj m a f=> ?_
 have af:=OwMf.mono mfT aj af
 have ac:=rd1 aj ac
 refine Ah f Z Z CN λa f=>Ab f Z λa f=>FQ Mf69 (i:=(iandNot .u32 x0 ag)) 0 m af Z underlying88 f Z Z Z λak w m al=>Ab f Z λa f=>Ac f Z λa f=>Aa (Ag (Ae ?_))
 refine Ab f Z λa f=>Ab f Z λa f=> ?_
 have⟨am,an,hd⟩:=bind_some hd
 refine Bd f Z call40 (Wk.c m an) λao w ap m a f=> ?_
 have al:=OwMf.mono mfT ap al
 have ac:=rd1 ap ac
 refine l_o f (By (f.e Z)) λa f=>Aa ?_
 rcases Af hd with⟨aq,hd⟩|⟨aq,hd⟩
 ·refine Al f Z aq ?_
  refine Ae ?_
  refine As 1 0 m Pl62 f Z Z Z Z λa f=>Ab f Z λa f=> ?_
  have⟨ar,au,hd⟩:=bind_some hd
  refine A4 T62 f Z Z Z ac au λav aw a ax ay f=> ?_
  subst ay
  refine Ax m BM f Z Z ax λa f=>Ab f Z λa f=>Ah f Z Z CC λa f=>Ab f Z λa f=>Ah f Z Z CN λa f=> ?_
  have⟨az,aA,hd⟩:=bind_some hd
  refine AX f Z call47 (Wk.h hW m aA) λaB aC aD w aE m aF a f=> ?_
  obtain⟨aG,aH,rfl,rfl,aI⟩:=aF
  have al:=OwMf.mono mfT aE al
  refine B4 0 m aI Z underlying89 f Z Z λa f=>Ab f Z λa f=>Aa ?_
  have⟨aJ,aK,hd⟩:=bind_some hd
  refine AM (λa w=>∃aL:A5,aL=aJ∧∃(aM:GH) (aN:Itm),GLe aC aM∧Fr a 46 [(10,ae)]∧Mem W aM w (ib b4 62 [aa]::aN::H)∧OwMf BL aM aN ae aL) ?_ ?_
  ·refine Ak ?_
   have m:=m.fr 1
   have m:=m.fr 2
   refine AO (λaO a w=>∃aP:A5,∃aQ:Int,(aP,aQ)=aO∧∃(aR:GH) (aS:Itm),GLe aC aR∧Fr a 46 [(0,(.int .u32 x0)),(3,(iv x3)),(10,ae),(32,aG),(33,(iv (az.length:Int))),(34,(iv aQ))]∧Mem W aR w (ib b4 62 [aa]::aS::aH::H)∧OwMf BL aR aS ae aP) aK ⟨_,_,Z,_,ak,gr,f.k Z,m,al⟩ ?_
   clear aK f m
   rintro aO aT aU aV a w ⟨aP,aQ,rfl,aR,aS,aW,f,m,aX⟩
   have aI:=od1 aW aI
   refine Ae ?_
   refine Ah f Z Z AR λa f=>Aa (Ag ?_)
   rcases Af aU with⟨aY,aU⟩|⟨aY,aU⟩
   ·refine Al f Z aY ?_
    refine Am ?_
    refine Ag (Ak (Ae ?_))
    have⟨aZ,a0,aU⟩:=bind_some aU
    refine Bi 2 m aI Z T89 f Z Z Z a0 λa1 a a2 f=>Bk 2 m aI Z Pl3 f Z Z a2 a0 λa3 a a4 f=> ?_
    subst a4
    refine Ac f Z λa f=>Aa (Aj ?_)
    refine Ab f Z λa f=>Ab f Z λa f=>Ab f Z λa f=> ?_
    have⟨a5,a6,aU⟩:=bind_some aU
    refine Bd f Z call38 (Wk.a m a6) λa7 w a8 m a f=> ?_
    have aX:=OwMf.mono mfT a8 aX
    refine Ah f Z Z Db λa f=>Ab f Z λa f=>Fe Mf69 (i:=(ior .u32 x0 a5)) 1 m aX Z underlying88 f Z Z Z λa9 w m ba=>Aa (Aj ?_)
    refine Ah f Z Z AB λa f=>Ab f Z λa f=>Aa ?_
    obtain rfl:=sj aU
    exact⟨_,Z,_,_,Z,_,a9,(gt aW a8),f.k Z,m,ba⟩
   ·refine Ai f Z aY ?_
    refine AG Z ?_
    have m:=m.eraseAt 2
    obtain rfl:=sj aU
    obtain rfl:=aV _ rfl
    exact⟨_,Z,_,aS,aW,f.k Z,m,aX⟩
  ·rintro a w ⟨aL,rfl,aM,aN,bb,f,m,bc⟩
   refine Ae ?_
   refine Ab f Z λa f=>Ac f Z λa f=>Aa ?_
   refine Ap ?_
   have m:=m.fr 1
   obtain rfl:=sj hd
   exact⟨[ae],f.g Z,f.d,_,[aN,ib b4 62 [aa]],(gt aj (gt ap (gt aE bb))),m,_,_,Z,Z,bc⟩
 ·refine Ai f Z aq ?_
  refine Am ?_
  refine Ae ?_
  refine Ab f Z λa f=>Ac f Z λa f=>Aa ?_
  refine Ap ?_
  obtain rfl:=sj hd
  exact⟨[ae],f.g Z,f.d,_,[ak,ib b4 62 [aa]],(gt aj ap),m,_,_,Z,Z,al⟩
set_option maxHeartbeats 1000000 in
theorem Wk.v0 {aa ab ac ad v1:Value}{b2_1c0:Nat}{v2_1c0_0:Value}{ae af:LI}{ag ah:LL}{x1:A5}{x2_1c0_0:LI}(hW:Dc W)(m:Mem W G w (ib b2_1c0 62 [v2_1c0_0]::H))(ai:R1 G aa ae)(aj:R1 G ab af)(ak:R2 G ac ag)(al:R2 G ad ah)(h1:RMf BL G v1 x1)(h2_1c0_0:RSl (RI .u32) G v2_1c0_0 x2_1c0_0){y:A5}(hd:D.v0 ae af ag ah x1 x2_1c0_0=some y):
  Calls prog 50 #[(.agg #[aa,ab,ac,ad]),v1,(.agg #[(.func (.func 45) #[] #[]),(.func (.func 46) #[] #[(pb b2_1c0)]),(.func (.func 48) #[] #[]),(.func (.func 49) #[] #[]),(.func (.func 42) #[] #[])])] w (Res W G H (λG' Ho v=>∃r0:Value,Ho=[ib b2_1c0 62 [v2_1c0_0]]∧r0=v∧RMf BL G' r0 y)):=by
 refine Au (args:=[(.agg #[aa,ab,ac,ad]),v1,(.agg #[(.func (.func 45) #[] #[]),(.func (.func 46) #[] #[(pb b2_1c0)]),(.func (.func 48) #[] #[]),(.func (.func 49) #[] #[]),(.func (.func 42) #[] #[])])]) (N:=181) [.tmp 6] func50 Z Z (lb Z) Z λa f=> ?_
 unfold D.v0 at hd
 refine Ae ?_
 refine Bo (cs:=[aa,ab,ac,ad]) m f Z Z Z λam w a m f=>Bo (cs:=[(.func (.func 45) #[] #[]),(.func (.func 46) #[] #[(pb b2_1c0)]),(.func (.func 48) #[] #[]),(.func (.func 49) #[] #[]),(.func (.func 42) #[] #[])]) m f Z Z Z λan w a m f=>Ac f Z λa f=>AD ?_
 refine A7 (R:=(RMf BL)) (xs:=([]:List A5)) (RMf.one _) m Dy f Z Z Z (by decide) (All2.nil _) λao ap w a m aq f=>Ac f Z λa f=>Aa (Ag (Ae ?_))
 refine AW underlying38 Z sizeOf35 f Z λa f=>As 2 0 m Ba f Z Z Z Z λa f=>AL underlying35 f Z Z ai λa f=>Ab f Z λa f=>Aa ?_
 have⟨ar,au,hd⟩:=bind_some hd
 refine AM (λa w=>∃av:List A5,av=ar∧∃(aw:GH) (ax:Value) (ay:Itm),GLe G aw∧Fr a 181 [(7,ax)]∧Mem W aw w (ib b2_1c0 62 [v2_1c0_0]::ay::H)∧Ow (RMf BL) 88 aw ay ax av) ?_ ?_
 ·refine Ak ?_
  have m:=m.fr 3
  have m:=m.fr 2
  have m:Mem W G w (ib am 38 [aa,ab,ac,ad]::ib an 94 [(.func (.func 45) #[] #[]),(.func (.func 46) #[] #[(pb b2_1c0)]),(.func (.func 48) #[] #[]),(.func (.func 49) #[] #[]),(.func (.func 42) #[] #[])]::ib b2_1c0 62 [v2_1c0_0]::ao::H):=m.fr 3
  refine AO (λaz a w=>∃aA:List A5,∃aB:Int,(aA,aB)=az∧∃(aC:GH) (aD:Value) (aE:Itm),GLe G aC∧Fr a 181 [(1,v1),(3,(pb am)),(5,(pb an)),(7,aD),(29,aa),(30,(iv (ae.length:Int))),(31,(iv aB))]∧Mem W aC w (ib am 38 [aa,ab,ac,ad]::ib an 94 [(.func (.func 45) #[] #[]),(.func (.func 46) #[] #[(pb b2_1c0)]),(.func (.func 48) #[] #[]),(.func (.func 49) #[] #[]),(.func (.func 42) #[] #[])]::ib b2_1c0 62 [v2_1c0_0]::aE::H)∧Ow (RMf BL) 88 aC aE aD aA) au ⟨_,_,Z,_,ap,ao,gr,f.k Z,m,aq⟩ ?_
  clear au f m
  rintro az aF aG aH a w ⟨aA,aB,rfl,aC,aD,aE,aI,f,m,aJ⟩
  have h1:=RMf.mono mfT _ _ _ _ aI h1
  have ai:=rd1 aI ai
  have aj:=rd1 aI aj
  have ak:=rd2 aI ak
  have al:=rd2 aI al
  have h2_1c0_0:=rd1 aI h2_1c0_0
  refine Ae ?_
  refine Ah f Z Z AR λa f=>Aa (Ag ?_)
  rcases Af aG with⟨aK,aG⟩|⟨aK,aG⟩
  ·refine Al f Z aK ?_
   refine Am ?_
   refine Ag (Ak (Ae ?_))
   refine Ab f Z λa f=> ?_
   have⟨aL,aM,aG⟩:=bind_some aG
   refine A4 T35 f Z Z Z ai aM λaN aO a aP aQ f=> ?_
   subst aQ
   refine Ax m Pl2 f Z Z aP λa f=>Ac f Z λa f=>Ac f Z λa f=>Aa (Ag ?_)
   refine Bf 14 AU (by kernel_rfl) m ?_
   refine Bt 1 14 underlying38 Z sizeOf35 Z f Z λa f=>Br 2 14 0 Ba Z Z Z f Z λa f=>An 3 14 Z f Z λa f=> ?_
   have⟨aR,aS,aG⟩:=bind_some aG
   refine A8 4 14 T35 aj aS Z f Z Z λaT aU a aV aW f=> ?_
   subst aW
   refine A9 5 14 Pl2 aV Z f Z λa f=>Bt 6 14 underlying38 Z sizeOf27 Z f Z λa f=>Br 7 14 0 Be Z Z Z f Z λa f=>An 8 14 Z f Z λa f=> ?_
   have⟨aX,aY,aG⟩:=bind_some aG
   refine A8 9 14 T27 al aY Z f Z Z λaZ a0 a a1 a2 f=>A9 10 14 Ba a1 Z f Z λa f=>BC 0 Z λa3 w a4 m a5 a5=> ?_
   have h1:=RMf.mono mfT _ _ _ _ a4 h1
   have a2:=rd1 a4 a2
   have ak:=rd2 a4 ak
   have h2_1c0_0:=rd1 a4 h2_1c0_0
   have aJ:=Ow.mono (RMf.mono mfT) a4 aJ
   refine D8 BL m f Z λa6 a7 w a m a8 f=>Aa ?_
   refine a5 a3 [a6] _ _ gr m ?_
   refine q_p 11 14 Z f (λ_=>Bs (f.e Z)) λa f=>q_p 12 14 Z f (λ_=>Bs (f.e Z)) λa f=>q_p 13 14 Z f (λ_=>Bs (f.e Z)) λa f=>A2 λa9 w ba m=> ?_
   have h1:=RMf.mono mfT _ _ _ _ ba h1
   have a2:=rd1 ba a2
   have a8:=OwMf.mono mfT ba a8
   have ak:=rd2 ba ak
   have h2_1c0_0:=rd1 ba h2_1c0_0
   have aJ:=Ow.mono (RMf.mono mfT) ba aJ
   refine Aa (Ag (Ae ?_))
   refine Ab f Z λa f=>Aa (Ak (Ae ?_))
   refine Ah f Z Z Bj λa f=>Ac f Z λa f=>Aa ?_
   rcases Af aG with⟨bb,aG⟩|⟨bb,aG⟩
   ·refine Al f Z bb ?_
    refine Aj ?_
    refine Ab f Z λa f=>Ac f Z λa f=>Aa (Aj ?_)
    refine Ab f Z λa f=>Ab f Z λa f=>A7 (R:=(RMf BL)) (xs:=([x1]:List A5)) (RMf.one _) m Dy f Z Z Z (by decide) (All2.cons h1 (All2.nil _)) λbc bd w a m be f=> ?_
    have⟨bf,bg,aG⟩:=bind_some aG
    refine Bh (RMf.one _) 5 m aJ Z Dy Z (by decide) f Z Z Z (Ow.src (j:=0) be m Z) bg λbh bi w a m bj f=>Ac f Z λa f=>Aa (Aj ?_)
    refine Ah f Z Z AB λa f=>Ab f Z λa f=>Aa ?_
    have m:=m.fr 5
    have m:=m.fr 5
    have m:Mem W a9 w (ib an 94 [(.func (.func 45) #[] #[]),(.func (.func 46) #[] #[(pb b2_1c0)]),(.func (.func 48) #[] #[]),(.func (.func 49) #[] #[]),(.func (.func 42) #[] #[])]::ib b2_1c0 62 [v2_1c0_0]::bh::bc::a6::ib am 38 [aa,ab,ac,ad]::H):=m.fr 5
    have m:=m.fr 5
    have m:=m.eraseAt 5
    have m:Mem W a9 w (ib am 38 [aa,ab,ac,ad]::ib an 94 [(.func (.func 45) #[] #[]),(.func (.func 46) #[] #[(pb b2_1c0)]),(.func (.func 48) #[] #[]),(.func (.func 49) #[] #[]),(.func (.func 42) #[] #[])]::ib b2_1c0 62 [v2_1c0_0]::bh::H):=m.eraseAt 4
    obtain rfl:=sj aG
    exact⟨_,Z,_,_,Z,_,bi,bh,(gt aI (gt a4 ba)),f.k Z,m,bj⟩
   ·refine Ai f Z bb ?_
    refine Ae ?_
    refine Ah f Z Z Bj λa f=>Ac f Z λa f=>Aa ?_
    rcases Af aG with⟨bk,aG⟩|⟨bk,aG⟩
    ·refine Al f Z bk ?_
     refine Ae ?_
     refine Ab f Z λa f=>Ab f Z λa f=> ?_
     have⟨bl,bm,aG⟩:=bind_some aG
     refine A4 T35 f Z Z Z a2 bm λbn bo a bp bq f=> ?_
     subst bq
     refine Ax m Pl2 f Z Z bp λa f=> ?_
     have⟨br,bs,aG⟩:=bind_some aG
     refine Bi 4 m aJ Z Dy f Z Z Z bs λbt a bu f=>Bk 4 m aJ Z Pl88 f Z Z bu bs λbv a bw f=>CE m bw underlying88 f Z Z λbx bz bA w a m bB bC f=>Aa ?_
     have⟨bD,bE,aG⟩:=bind_some aG
     refine AM (λa w=>∃bF:A5,bF=bD∧∃(bG:GH) (bH:Itm),GLe a9 bG∧Fr a 181 [(1,v1),(3,(pb am)),(5,(pb an)),(7,aD),(10,a7),(11,(iv aR)),(12,a0),(29,aa),(30,(iv (ae.length:Int))),(31,(iv aB))]∧Mem W bG w (ib am 38 [aa,ab,ac,ad]::ib an 94 [(.func (.func 45) #[] #[]),(.func (.func 46) #[] #[(pb b2_1c0)]),(.func (.func 48) #[] #[]),(.func (.func 49) #[] #[]),(.func (.func 42) #[] #[])]::ib b2_1c0 62 [v2_1c0_0]::aE::bH::H)∧OwMf BL bG bH a7 bF) ?_ ?_
     ·refine Ak ?_
      have m:=m.fr 5
      have m:=m.fr 5
      have m:Mem W a9 w (ib an 94 [(.func (.func 45) #[] #[]),(.func (.func 46) #[] #[(pb b2_1c0)]),(.func (.func 48) #[] #[]),(.func (.func 49) #[] #[]),(.func (.func 42) #[] #[])]::ib b2_1c0 62 [v2_1c0_0]::aE::bx::a6::ib am 38 [aa,ab,ac,ad]::H):=m.fr 5
      have m:=m.fr 5
      have m:Mem W a9 w (bx::ib am 38 [aa,ab,ac,ad]::ib an 94 [(.func (.func 45) #[] #[]),(.func (.func 46) #[] #[(pb b2_1c0)]),(.func (.func 48) #[] #[]),(.func (.func 49) #[] #[]),(.func (.func 42) #[] #[])]::ib b2_1c0 62 [v2_1c0_0]::aE::a6::H):=m.fr 4
      refine Df (λbI bJ a w=>∃bK:A5,bK=bI∧∃(bL:GH) (bM:Itm) (bN:Itm),GLe a9 bL∧Fr a 181 [(1,v1),(3,(pb am)),(5,(pb an)),(7,aD),(10,a7),(11,(iv aR)),(12,a0),(29,aa),(30,(iv (ae.length:Int))),(31,(iv aB)),(59,bz)]∧Mem W bL w (bM::ib am 38 [aa,ab,ac,ad]::ib an 94 [(.func (.func 45) #[] #[]),(.func (.func 46) #[] #[(pb b2_1c0)]),(.func (.func 48) #[] #[]),(.func (.func 49) #[] #[]),(.func (.func 42) #[] #[])]::ib b2_1c0 62 [v2_1c0_0]::aE::bN::H)∧RgA BL bL bM bz bJ∧OwMf BL bL bN a7 bK) bE bC ⟨_,Z,_,bx,a6,gr,f.k Z,m,bB,a8⟩ ?_
      clear bE f m
      rintro bI bJ bO a w ⟨bK,rfl,bL,bM,bN,bP,f,m,bQ,bR⟩
      have h1:=RMf.mono mfT _ _ _ _ bP h1
      have a2:=rd1 bP a2
      have ak:=rd2 bP ak
      have h2_1c0_0:=rd1 bP h2_1c0_0
      refine Ae ?_
      refine C1 (enc:=BL) Mf69.inj 0 m bQ Z f Z Z (λbS a f=> ?_) λbT bU bV w a bW m bX f=> ?_
      ·have bY:=CH bO bS
       subst bY
       have m:Mem W bL w (ib am 38 [aa,ab,ac,ad]::ib an 94 [(.func (.func 45) #[] #[]),(.func (.func 46) #[] #[(pb b2_1c0)]),(.func (.func 48) #[] #[]),(.func (.func 49) #[] #[]),(.func (.func 42) #[] #[])]::ib b2_1c0 62 [v2_1c0_0]::aE::bN::H):=m.eraseAt 0
       refine l_o f (AF (f.e Z) Z) λa f=>Aa (Ag ?_)
       refine Ai f Z Z ?_
       refine AG Z ?_
       exact⟨_,Z,_,bN,bP,f.k Z,m,bR⟩
      ·obtain⟨bZ,b0,b1⟩:=Cv bO bW
       have b2:=CX bW
       refine l_o f (AF (f.e Z) Z) λa f=>Aa (Ag ?_)
       refine Al f Z Z ?_
       refine Am ?_
       refine Ak (Ae ?_)
       refine CG 0 m bX Z f Z Z λa f=>l_o f (AF (f.e Z) Z) λa f=>l_o f (AF (f.e Z) Z) λa f=>Ac f Z λa f=>Ac f Z λa f=>Aa (Ag ?_)
       refine Bf 15 AU (by kernel_rfl) m ?_
       refine Bt 0 15 underlying94 Z sizeOf87 Z f Z λa f=>Br 1 15 2 Pl87 Z Z Z f Z λa f=>An 2 15 Z f Z λa f=>An 3 15 Z f Z λa f=>Bt 4 15 underlying38 Z sizeOf27 Z f Z λa f=>Br 5 15 1 Be Z Z Z f Z λa f=>An 6 15 Z f Z λa f=> ?_
       have⟨b3,b4,b0⟩:=bind_some b0
       refine A8 7 15 T35 a2 b4 Z f Z Z λb5 b6 a b7 b8 f=> ?_
       subst b8
       refine A9 8 15 Pl2 b7 Z f Z λa f=> ?_
       have⟨b9,ca,b0⟩:=bind_some b0
       refine A8 9 15 T27 ak ca Z f Z Z λcb cc a cd ce f=>A9 10 15 Ba cd Z f Z λa f=> ?_
       have⟨cf,cg,b0⟩:=bind_some b0
       refine BJ (i:=11) 15 Z (by kernel_rfl) Z f Z Z Z call76 (λ_ _ w ch m=>Wk.k m (rd1 ch ce) cg) λa f=>An 14 15 Z f Z λa f=>BC 12 Z λci w cj m ck ck=> ?_
       have h1:=RMf.mono mfT _ _ _ _ cj h1
       have bX:=RgF.mono cj bX
       have h2_1c0_0:=rd1 cj h2_1c0_0
       have bR:=OwMf.mono mfT cj bR
       have⟨cl,cm,b0⟩:=bind_some b0
       refine CL f Z Z Z call45 (Wk.g1 m cm) λcn co cp w cq m cr a f=> ?_
       obtain⟨ct,cu,rfl,rfl,cv⟩:=cr
       have h1:=RMf.mono mfT _ _ _ _ cq h1
       have bX:=RgF.mono cq bX
       have h2_1c0_0:=rd1 cq h2_1c0_0
       have bR:=OwMf.mono mfT cq bR
       refine Aa ?_
       refine ck co [cu] _ _ cq m ?_
       refine q_own_len (i:=13) 15 0 m cv Z underlying60 Z (by kernel_rfl) Z f Z Z Z λa f=>A2 λcw w cx m=> ?_
       have h1:=RMf.mono mfT _ _ _ _ cx h1
       have cv:=od1 cx cv
       have bX:=RgF.mono cx bX
       have h2_1c0_0:=rd1 cx h2_1c0_0
       have bR:=OwMf.mono mfT cx bR
       refine Aa ?_
       have⟨cy,cz,b0⟩:=bind_some b0
       refine AM (λa w=>∃cA:A5,cA=cy∧∃(cB:GH) (cC:Itm),GLe cw cB∧Fr a 181 [(1,v1),(3,(pb am)),(5,(pb an)),(7,aD),(10,a7),(11,(iv aR)),(12,a0),(29,aa),(30,(iv (ae.length:Int))),(31,(iv aB)),(59,bz)]∧Mem W cB w (bV::ib am 38 [aa,ab,ac,ad]::ib an 94 [(.func (.func 45) #[] #[]),(.func (.func 46) #[] #[(pb b2_1c0)]),(.func (.func 48) #[] #[]),(.func (.func 49) #[] #[]),(.func (.func 42) #[] #[])]::ib b2_1c0 62 [v2_1c0_0]::aE::cC::H)∧OwMf BL cB cC a7 cA) ?_ ?_
       ·refine Ak ?_
        have m:=m.fr 6
        have m:=m.fr 6
        have m:Mem W cw w (ib b2_1c0 62 [v2_1c0_0]::aE::bN::cu::bV::ib am 38 [aa,ab,ac,ad]::ib an 94 [(.func (.func 45) #[] #[]),(.func (.func 46) #[] #[(pb b2_1c0)]),(.func (.func 48) #[] #[]),(.func (.func 49) #[] #[]),(.func (.func 42) #[] #[])]::H):=m.fr 6
        have m:=m.fr 6
        have m:=m.fr 6
        have m:Mem W cw w (bV::ib am 38 [aa,ab,ac,ad]::ib an 94 [(.func (.func 45) #[] #[]),(.func (.func 46) #[] #[(pb b2_1c0)]),(.func (.func 48) #[] #[]),(.func (.func 49) #[] #[]),(.func (.func 42) #[] #[])]::ib b2_1c0 62 [v2_1c0_0]::aE::bN::cu::H):=m.fr 6
        refine AO (λcD a w=>∃cE:A5,∃cF:Int,(cE,cF)=cD∧∃(cG:GH) (cH:Itm),GLe cw cG∧Fr a 181 [(1,v1),(3,(pb am)),(5,(pb an)),(7,aD),(10,a7),(11,(iv aR)),(12,a0),(14,(iv bT.2)),(29,aa),(30,(iv (ae.length:Int))),(31,(iv aB)),(59,bz),(77,ct),(78,(iv (cl.length:Int))),(79,(iv cF))]∧Mem W cG w (bV::ib am 38 [aa,ab,ac,ad]::ib an 94 [(.func (.func 45) #[] #[]),(.func (.func 46) #[] #[(pb b2_1c0)]),(.func (.func 48) #[] #[]),(.func (.func 49) #[] #[]),(.func (.func 42) #[] #[])]::ib b2_1c0 62 [v2_1c0_0]::aE::cH::cu::H)∧OwMf BL cG cH a7 cE) cz ⟨_,_,Z,_,bN,gr,f.k Z,m,bR⟩ ?_
        clear cz f m
        rintro cD cI cJ cK a w ⟨cE,cF,rfl,cG,cH,cL,f,m,cM⟩
        have h1:=RMf.mono mfT _ _ _ _ cL h1
        have bX:=RgF.mono cL bX
        have h2_1c0_0:=rd1 cL h2_1c0_0
        have cv:=od1 cL cv
        refine Ae ?_
        refine Ah f Z Z AR λa f=>Aa (Ag ?_)
        rcases Af cJ with⟨cN,cJ⟩|⟨cN,cJ⟩
        ·refine Al f Z cN ?_
         refine Am ?_
         refine Ag (Ak (Ae ?_))
         have⟨cO,cP,cJ⟩:=bind_some cJ
         refine Bi 6 m cv Z T60 f Z Z Z cP λcQ a cR f=>Bk 6 m cv Z BM f Z Z cR cP λcS a cT f=> ?_
         subst cT
         refine Ac f Z λa f=>Aa (Aj ?_)
         refine AC 2 0 (ds:=[(.func (.func 45) #[] #[]),(.func (.func 46) #[] #[(pb b2_1c0)]),(.func (.func 48) #[] #[]),(.func (.func 49) #[] #[]),(.func (.func 42) #[] #[])]) m Ag94 f Z Z Z Z Z λa f=>Ab f Z λa f=>Ab f Z λa f=>Ab f Z λa f=> ?_
         have m:=m.fr 5
         have m:Mem W cG w (ib b2_1c0 62 [v2_1c0_0]::cH::bV::ib am 38 [aa,ab,ac,ad]::ib an 94 [(.func (.func 45) #[] #[]),(.func (.func 46) #[] #[(pb b2_1c0)]),(.func (.func 48) #[] #[]),(.func (.func 49) #[] #[]),(.func (.func 42) #[] #[])]::aE::cu::H):=m.fr 4
         have⟨cU,cV,cJ⟩:=bind_some cJ
         refine AX f Z call88 (Wk.E m h2_1c0_0 cM cV) λcW cX cY w cZ m c0 a f=> ?_
         obtain⟨c1,rfl,c2⟩:=c0
         have h1:=RMf.mono mfT _ _ _ _ cZ h1
         have bX:=RgF.mono cZ bX
         refine Aa (Aj ?_)
         refine Ah f Z Z AB λa f=>Ab f Z λa f=>Aa ?_
         have m:=m.fr 5
         have m:=m.fr 1
         have m:Mem W cX w (ib an 94 [(.func (.func 45) #[] #[]),(.func (.func 46) #[] #[(pb b2_1c0)]),(.func (.func 48) #[] #[]),(.func (.func 49) #[] #[]),(.func (.func 42) #[] #[])]::ib b2_1c0 62 [v2_1c0_0]::aE::c1::bV::ib am 38 [aa,ab,ac,ad]::cu::H):=m.fr 5
         have m:=m.fr 5
         have m:Mem W cX w (bV::ib am 38 [aa,ab,ac,ad]::ib an 94 [(.func (.func 45) #[] #[]),(.func (.func 46) #[] #[(pb b2_1c0)]),(.func (.func 48) #[] #[]),(.func (.func 49) #[] #[]),(.func (.func 42) #[] #[])]::ib b2_1c0 62 [v2_1c0_0]::aE::c1::cu::H):=m.fr 5
         obtain rfl:=sj cJ
         exact⟨_,Z,_,_,Z,_,c1,(gt cL cZ),f.k Z,m,c2⟩
        ·refine Ai f Z cN ?_
         refine AG Z ?_
         have m:Mem W cG w (bV::ib am 38 [aa,ab,ac,ad]::ib an 94 [(.func (.func 45) #[] #[]),(.func (.func 46) #[] #[(pb b2_1c0)]),(.func (.func 48) #[] #[]),(.func (.func 49) #[] #[]),(.func (.func 42) #[] #[])]::ib b2_1c0 62 [v2_1c0_0]::aE::cH::H):=m.eraseAt 6
         obtain rfl:=sj cJ
         obtain rfl:=cK _ rfl
         exact⟨_,Z,_,cH,cL,f.k Z,m,cM⟩
       ·rintro a w ⟨cA,rfl,cB,cC,c3,f,m,c4⟩
        have h1:=RMf.mono mfT _ _ _ _ c3 h1
        have bX:=RgF.mono c3 bX
        obtain rfl:=sj b0
        exact⟨_,_,b2,b1,_,Z,_,bV,cC,(gt bP (gt cj (gt cq (gt cx c3)))),f.k Z,m,bX.any,c4⟩
     ·rintro a w ⟨bF,rfl,bG,bH,c5,f,m,c6⟩
      have h1:=RMf.mono mfT _ _ _ _ c5 h1
      have aJ:=Ow.mono (RMf.mono mfT) c5 aJ
      refine Aj ?_
      refine Ab f Z λa f=>Ab f Z λa f=> ?_
      have m:Mem W bG w (bH::ib am 38 [aa,ab,ac,ad]::ib an 94 [(.func (.func 45) #[] #[]),(.func (.func 46) #[] #[(pb b2_1c0)]),(.func (.func 48) #[] #[]),(.func (.func 49) #[] #[]),(.func (.func 42) #[] #[])]::ib b2_1c0 62 [v2_1c0_0]::aE::H):=m.fr 4
      obtain⟨c7,c8,m,c9⟩:=OwMf.stamp mfT c6 m
      have h1:=RMf.mono mfT _ _ _ _ c8 h1
      have aJ:=Ow.mono (RMf.mono mfT) c8 aJ
      refine A7 (R:=(RMf BL)) (xs:=([bF]:List A5)) (RMf.one _) m Dy f Z Z Z (by decide) (All2.cons c9 (All2.nil _)) λda db w a m dc f=> ?_
      have⟨dd,de,aG⟩:=bind_some aG
      refine Bh (RMf.one _) 4 m aJ Z Dy Z (by decide) f Z Z Z (Ow.src (j:=0) dc m Z) de λdf dg w a m dh f=>Ac f Z λa f=>Aa (Aj ?_)
      refine Ah f Z Z AB λa f=>Ab f Z λa f=>Aa ?_
      have m:=m.fr 4
      have m:=m.fr 4
      have m:Mem W c7 w (ib an 94 [(.func (.func 45) #[] #[]),(.func (.func 46) #[] #[(pb b2_1c0)]),(.func (.func 48) #[] #[]),(.func (.func 49) #[] #[]),(.func (.func 42) #[] #[])]::ib b2_1c0 62 [v2_1c0_0]::df::da::ib am 38 [aa,ab,ac,ad]::H):=m.fr 4
      have m:=m.fr 4
      have m:Mem W c7 w (ib am 38 [aa,ab,ac,ad]::ib an 94 [(.func (.func 45) #[] #[]),(.func (.func 46) #[] #[(pb b2_1c0)]),(.func (.func 48) #[] #[]),(.func (.func 49) #[] #[]),(.func (.func 42) #[] #[])]::ib b2_1c0 62 [v2_1c0_0]::df::H):=m.eraseAt 4
      obtain rfl:=sj aG
      exact⟨_,Z,_,_,Z,_,dg,df,(gt aI (gt a4 (gt ba (gt c5 c8)))),f.k Z,m,dh⟩
    ·refine Ai f Z bk ?_
     refine Ae ?_
     refine Ah f Z Z Bj λa f=>Ac f Z λa f=>Aa ?_
     rcases Af aG with⟨di,aG⟩|⟨di,aG⟩
     ·refine Al f Z di ?_
      refine Ae ?_
      refine Ab f Z λa f=>Ab f Z λa f=> ?_
      have⟨dj,dk,aG⟩:=bind_some aG
      refine A4 T35 f Z Z Z a2 dk λdl dm a dn dp f=> ?_
      subst dp
      refine Ax m Pl2 f Z Z dn λa f=> ?_
      have⟨dq,dr,aG⟩:=bind_some aG
      refine Bi 4 m aJ Z Dy f Z Z Z dr λdt a du f=>Bk 4 m aJ Z Pl88 f Z Z du dr λdv a dw f=>CE m dw underlying88 f Z Z λdx dy dz w a m dA dB f=>Aa ?_
      have⟨dC,dD,aG⟩:=bind_some aG
      refine AM (λa w=>∃dE:A5,dE=dC∧∃(dF:GH) (dG:Itm),GLe a9 dF∧Fr a 181 [(1,v1),(3,(pb am)),(5,(pb an)),(7,aD),(8,(iv aB)),(10,a7),(11,(iv aR)),(29,aa),(30,(iv (ae.length:Int))),(31,(iv aB))]∧Mem W dF w (ib am 38 [aa,ab,ac,ad]::ib an 94 [(.func (.func 45) #[] #[]),(.func (.func 46) #[] #[(pb b2_1c0)]),(.func (.func 48) #[] #[]),(.func (.func 49) #[] #[]),(.func (.func 42) #[] #[])]::ib b2_1c0 62 [v2_1c0_0]::aE::dG::H)∧OwMf BL dF dG a7 dE) ?_ ?_
      ·refine Ak ?_
       have m:=m.fr 5
       have m:=m.fr 5
       have m:Mem W a9 w (ib an 94 [(.func (.func 45) #[] #[]),(.func (.func 46) #[] #[(pb b2_1c0)]),(.func (.func 48) #[] #[]),(.func (.func 49) #[] #[]),(.func (.func 42) #[] #[])]::ib b2_1c0 62 [v2_1c0_0]::aE::dx::a6::ib am 38 [aa,ab,ac,ad]::H):=m.fr 5
       have m:=m.fr 5
       have m:Mem W a9 w (dx::ib am 38 [aa,ab,ac,ad]::ib an 94 [(.func (.func 45) #[] #[]),(.func (.func 46) #[] #[(pb b2_1c0)]),(.func (.func 48) #[] #[]),(.func (.func 49) #[] #[]),(.func (.func 42) #[] #[])]::ib b2_1c0 62 [v2_1c0_0]::aE::a6::H):=m.fr 4
       refine Df (λdH dI a w=>∃dJ:A5,dJ=dH∧∃(dK:GH) (dL:Itm) (dM:Itm),GLe a9 dK∧Fr a 181 [(1,v1),(3,(pb am)),(5,(pb an)),(7,aD),(8,(iv aB)),(10,a7),(11,(iv aR)),(29,aa),(30,(iv (ae.length:Int))),(31,(iv aB)),(97,dy)]∧Mem W dK w (dL::ib am 38 [aa,ab,ac,ad]::ib an 94 [(.func (.func 45) #[] #[]),(.func (.func 46) #[] #[(pb b2_1c0)]),(.func (.func 48) #[] #[]),(.func (.func 49) #[] #[]),(.func (.func 42) #[] #[])]::ib b2_1c0 62 [v2_1c0_0]::aE::dM::H)∧RgA BL dK dL dy dI∧OwMf BL dK dM a7 dJ) dD dB ⟨_,Z,_,dx,a6,gr,f.k Z,m,dA,a8⟩ ?_
       clear dD f m
       rintro dH dI dN a w ⟨dJ,rfl,dK,dL,dM,dO,f,m,dP,dQ⟩
       have h1:=RMf.mono mfT _ _ _ _ dO h1
       have ak:=rd2 dO ak
       have h2_1c0_0:=rd1 dO h2_1c0_0
       refine Ae ?_
       refine C1 (enc:=BL) Mf69.inj 0 m dP Z f Z Z (λdR a f=> ?_) λdS dT dU w a dV m dW f=> ?_
       ·have dX:=CH dN dR
        subst dX
        have m:Mem W dK w (ib am 38 [aa,ab,ac,ad]::ib an 94 [(.func (.func 45) #[] #[]),(.func (.func 46) #[] #[(pb b2_1c0)]),(.func (.func 48) #[] #[]),(.func (.func 49) #[] #[]),(.func (.func 42) #[] #[])]::ib b2_1c0 62 [v2_1c0_0]::aE::dM::H):=m.eraseAt 0
        refine l_o f (AF (f.e Z) Z) λa f=>Aa (Ag ?_)
        refine Ai f Z Z ?_
        refine AG Z ?_
        exact⟨_,Z,_,dM,dO,f.k Z,m,dQ⟩
       ·obtain⟨dY,dZ,d0⟩:=Cv dN dV
        have d1:=CX dV
        refine l_o f (AF (f.e Z) Z) λa f=>Aa (Ag ?_)
        refine Al f Z Z ?_
        refine Am ?_
        refine Ak (Ae ?_)
        refine CG 0 m dW Z f Z Z λa f=>l_o f (AF (f.e Z) Z) λa f=>l_o f (AF (f.e Z) Z) λa f=>Ac f Z λa f=>Ac f Z λa f=>Aa (Ag ?_)
        refine Bf 12 AU (by kernel_rfl) m ?_
        refine Bt 0 12 underlying94 Z sizeOf91 Z f Z λa f=>Br 1 12 2 Pl91 Z Z Z f Z λa f=>An 2 12 Z f Z λa f=>An 3 12 Z f Z λa f=>Bt 4 12 underlying38 Z sizeOf27 Z f Z λa f=>Br 5 12 1 Be Z Z Z f Z λa f=>An 6 12 Z f Z λa f=> ?_
        have⟨d2,d3,dZ⟩:=bind_some dZ
        refine A8 7 12 T27 ak d3 Z f Z Z λd4 d5 a d6 d7 f=>A9 8 12 Ba d6 Z f Z λa f=> ?_
        have⟨d8,d9,dZ⟩:=bind_some dZ
        refine BJ (i:=9) 12 Z (by kernel_rfl) Z f Z Z Z call76 (λ_ _ w ea m=>Wk.k m (rd1 ea d7) d9) λa f=>An 10 12 Z f Z λa f=>BC 11 Z λeb w ec m ed ed=> ?_
        have h1:=RMf.mono mfT _ _ _ _ ec h1
        have dW:=RgF.mono ec dW
        have h2_1c0_0:=rd1 ec h2_1c0_0
        have dQ:=OwMf.mono mfT ec dQ
        have m:Mem W eb w (ib b2_1c0 62 [v2_1c0_0]::dU::ib am 38 [aa,ab,ac,ad]::ib an 94 [(.func (.func 45) #[] #[]),(.func (.func 46) #[] #[(pb b2_1c0)]),(.func (.func 48) #[] #[]),(.func (.func 49) #[] #[]),(.func (.func 42) #[] #[])]::aE::dM::H):=m.fr 3
        have⟨ee,ef,dZ⟩:=bind_some dZ
        refine CL f Z Z Z call46 (Wk.y0 hW m h2_1c0_0 ef) λeg eh ei w ej m ek a f=> ?_
        obtain⟨el,em,rfl,rfl,en⟩:=ek
        have h1:=RMf.mono mfT _ _ _ _ ej h1
        have h2_1c0_0:=rd1 ej h2_1c0_0
        have dW:=RgF.mono ej dW
        have dQ:=OwMf.mono mfT ej dQ
        refine Aa ?_
        have m:=m.fr 4
        have m:=m.fr 4
        have m:Mem W eh w (dU::ib am 38 [aa,ab,ac,ad]::ib an 94 [(.func (.func 45) #[] #[]),(.func (.func 46) #[] #[(pb b2_1c0)]),(.func (.func 48) #[] #[]),(.func (.func 49) #[] #[]),(.func (.func 42) #[] #[])]::em::ib b2_1c0 62 [v2_1c0_0]::aE::dM::H):=m.fr 4
        have m:Mem W eh w (em::dU::ib am 38 [aa,ab,ac,ad]::ib an 94 [(.func (.func 45) #[] #[]),(.func (.func 46) #[] #[(pb b2_1c0)]),(.func (.func 48) #[] #[]),(.func (.func 49) #[] #[]),(.func (.func 42) #[] #[])]::ib b2_1c0 62 [v2_1c0_0]::aE::dM::H):=m.fr 3
        refine ed eh [em] _ _ ej m ?_
        refine A2 λeo w ep m=> ?_
        have h1:=RMf.mono mfT _ _ _ _ ep h1
        have en:=OwMf.mono mfT ep en
        have dW:=RgF.mono ep dW
        have h2_1c0_0:=rd1 ep h2_1c0_0
        have dQ:=OwMf.mono mfT ep dQ
        obtain⟨eq,er,m,es⟩:=OwMf.stamp mfT en m
        have h1:=RMf.mono mfT _ _ _ _ er h1
        have dW:=RgF.mono er dW
        have h2_1c0_0:=rd1 er h2_1c0_0
        have dQ:=OwMf.mono mfT er dQ
        refine CE m es underlying88 f Z Z λet eu ev w a m ew ex f=>Aa ?_
        have⟨ey,ez,dZ⟩:=bind_some dZ
        refine AM (λa w=>∃eA:A5,eA=ey∧∃(eB:GH) (eC:Itm),GLe eq eB∧Fr a 181 [(1,v1),(3,(pb am)),(5,(pb an)),(7,aD),(8,(iv aB)),(10,a7),(11,(iv aR)),(29,aa),(30,(iv (ae.length:Int))),(31,(iv aB)),(97,dy)]∧Mem W eB w (dU::ib am 38 [aa,ab,ac,ad]::ib an 94 [(.func (.func 45) #[] #[]),(.func (.func 46) #[] #[(pb b2_1c0)]),(.func (.func 48) #[] #[]),(.func (.func 49) #[] #[]),(.func (.func 42) #[] #[])]::ib b2_1c0 62 [v2_1c0_0]::aE::eC::H)∧OwMf BL eB eC a7 eA) ?_ ?_
        ·refine Ak ?_
         refine Df (λeD eE a w=>∃eF:A5,eF=eD∧∃(eG:GH) (eH:Itm) (eI:Itm),GLe eq eG∧Fr a 181 [(1,v1),(3,(pb am)),(5,(pb an)),(7,aD),(8,(iv aB)),(10,a7),(11,(iv aR)),(29,aa),(30,(iv (ae.length:Int))),(31,(iv aB)),(97,dy),(115,eu)]∧Mem W eG w (eH::dU::ib am 38 [aa,ab,ac,ad]::ib an 94 [(.func (.func 45) #[] #[]),(.func (.func 46) #[] #[(pb b2_1c0)]),(.func (.func 48) #[] #[]),(.func (.func 49) #[] #[]),(.func (.func 42) #[] #[])]::ib b2_1c0 62 [v2_1c0_0]::aE::eI::H)∧RgA BL eG eH eu eE∧OwMf BL eG eI a7 eF) ez ex ⟨_,Z,_,et,dM,gr,f.k Z,m,ew,dQ⟩ ?_
         clear ez f m
         rintro eD eE eJ a w ⟨eF,rfl,eG,eH,eI,eK,f,m,eL,eM⟩
         have h1:=RMf.mono mfT _ _ _ _ eK h1
         have dW:=RgF.mono eK dW
         have h2_1c0_0:=rd1 eK h2_1c0_0
         refine Ae ?_
         refine C1 (enc:=BL) Mf69.inj 0 m eL Z f Z Z (λeN a f=> ?_) λeO eP eQ w a eR m eS f=> ?_
         ·have eT:=CH eJ eN
          subst eT
          have m:Mem W eG w (dU::ib am 38 [aa,ab,ac,ad]::ib an 94 [(.func (.func 45) #[] #[]),(.func (.func 46) #[] #[(pb b2_1c0)]),(.func (.func 48) #[] #[]),(.func (.func 49) #[] #[]),(.func (.func 42) #[] #[])]::ib b2_1c0 62 [v2_1c0_0]::aE::eI::H):=m.eraseAt 0
          refine l_o f (AF (f.e Z) Z) λa f=>Aa (Ag ?_)
          refine Ai f Z Z ?_
          refine AG Z ?_
          exact⟨_,Z,_,eI,eK,f.k Z,m,eM⟩
         ·obtain⟨eU,eV,eW⟩:=Cv eJ eR
          have eX:=CX eR
          refine l_o f (AF (f.e Z) Z) λa f=>Aa (Ag ?_)
          refine Al f Z Z ?_
          refine Am ?_
          refine Ak (Ae ?_)
          refine CG 0 m eS Z f Z Z λa f=>l_o f (AF (f.e Z) Z) λa f=>l_o f (AF (f.e Z) Z) λa f=>Ac f Z λa f=>Ac f Z λa f=>Aa (Aj ?_)
          refine AC 3 0 (ds:=[(.func (.func 45) #[] #[]),(.func (.func 46) #[] #[(pb b2_1c0)]),(.func (.func 48) #[] #[]),(.func (.func 49) #[] #[]),(.func (.func 42) #[] #[])]) m Ag94 f Z Z Z Z Z λa f=>Ab f Z λa f=>Ab f Z λa f=>Ab f Z λa f=> ?_
          have m:=m.fr 6
          have m:Mem W eG w (ib b2_1c0 62 [v2_1c0_0]::eI::eQ::dU::ib am 38 [aa,ab,ac,ad]::ib an 94 [(.func (.func 45) #[] #[]),(.func (.func 46) #[] #[(pb b2_1c0)]),(.func (.func 48) #[] #[]),(.func (.func 49) #[] #[]),(.func (.func 42) #[] #[])]::aE::H):=m.fr 5
          have⟨eY,eZ,eV⟩:=bind_some eV
          refine AX f Z call88 (Wk.E m h2_1c0_0 eM eZ) λe0 e1 e2 w e3 m e4 a f=> ?_
          obtain⟨e5,rfl,e6⟩:=e4
          have h1:=RMf.mono mfT _ _ _ _ e3 h1
          have eS:=RgF.mono e3 eS
          have dW:=RgF.mono e3 dW
          refine Aa ?_
          have m:=m.fr 6
          have m:=m.fr 1
          have m:Mem W e1 w (ib an 94 [(.func (.func 45) #[] #[]),(.func (.func 46) #[] #[(pb b2_1c0)]),(.func (.func 48) #[] #[]),(.func (.func 49) #[] #[]),(.func (.func 42) #[] #[])]::ib b2_1c0 62 [v2_1c0_0]::aE::e5::eQ::dU::ib am 38 [aa,ab,ac,ad]::H):=m.fr 6
          have m:=m.fr 6
          have m:=m.fr 6
          have m:Mem W e1 w (eQ::dU::ib am 38 [aa,ab,ac,ad]::ib an 94 [(.func (.func 45) #[] #[]),(.func (.func 46) #[] #[(pb b2_1c0)]),(.func (.func 48) #[] #[]),(.func (.func 49) #[] #[]),(.func (.func 42) #[] #[])]::ib b2_1c0 62 [v2_1c0_0]::aE::e5::H):=m.fr 6
          obtain rfl:=sj eV
          exact⟨_,_,eX,eW,_,Z,_,eQ,e5,(gt eK e3),f.k Z,m,eS.any,e6⟩
        ·rintro a w ⟨eA,rfl,eB,eC,e7,f,m,e8⟩
         have h1:=RMf.mono mfT _ _ _ _ e7 h1
         have dW:=RgF.mono e7 dW
         obtain rfl:=sj dZ
         exact⟨_,_,d1,d0,_,Z,_,dU,eC,(gt dO (gt ec (gt ej (gt ep (gt er e7))))),f.k Z,m,dW.any,e8⟩
      ·rintro a w ⟨dE,rfl,dF,dG,e9,f,m,fa⟩
       have h1:=RMf.mono mfT _ _ _ _ e9 h1
       have aJ:=Ow.mono (RMf.mono mfT) e9 aJ
       refine Aj ?_
       refine Ab f Z λa f=>Ab f Z λa f=> ?_
       have m:Mem W dF w (dG::ib am 38 [aa,ab,ac,ad]::ib an 94 [(.func (.func 45) #[] #[]),(.func (.func 46) #[] #[(pb b2_1c0)]),(.func (.func 48) #[] #[]),(.func (.func 49) #[] #[]),(.func (.func 42) #[] #[])]::ib b2_1c0 62 [v2_1c0_0]::aE::H):=m.fr 4
       obtain⟨fb,fc,m,fd⟩:=OwMf.stamp mfT fa m
       have h1:=RMf.mono mfT _ _ _ _ fc h1
       have aJ:=Ow.mono (RMf.mono mfT) fc aJ
       refine A7 (R:=(RMf BL)) (xs:=([dE]:List A5)) (RMf.one _) m Dy f Z Z Z (by decide) (All2.cons fd (All2.nil _)) λfe ff w a m fg f=> ?_
       have⟨fh,fi,aG⟩:=bind_some aG
       refine Bh (RMf.one _) 4 m aJ Z Dy Z (by decide) f Z Z Z (Ow.src (j:=0) fg m Z) fi λfj fk w a m fl f=>Ac f Z λa f=>Aa (Aj ?_)
       refine Ah f Z Z AB λa f=>Ab f Z λa f=>Aa ?_
       have m:=m.fr 4
       have m:=m.fr 4
       have m:Mem W fb w (ib an 94 [(.func (.func 45) #[] #[]),(.func (.func 46) #[] #[(pb b2_1c0)]),(.func (.func 48) #[] #[]),(.func (.func 49) #[] #[]),(.func (.func 42) #[] #[])]::ib b2_1c0 62 [v2_1c0_0]::fj::fe::ib am 38 [aa,ab,ac,ad]::H):=m.fr 4
       have m:=m.fr 4
       have m:Mem W fb w (ib am 38 [aa,ab,ac,ad]::ib an 94 [(.func (.func 45) #[] #[]),(.func (.func 46) #[] #[(pb b2_1c0)]),(.func (.func 48) #[] #[]),(.func (.func 49) #[] #[]),(.func (.func 42) #[] #[])]::ib b2_1c0 62 [v2_1c0_0]::fj::H):=m.eraseAt 4
       obtain rfl:=sj aG
       exact⟨_,Z,_,_,Z,_,fk,fj,(gt aI (gt a4 (gt ba (gt e9 fc)))),f.k Z,m,fl⟩
     ·refine Ai f Z di ?_
      refine Ae ?_
      refine Ah f Z Z Bj λa f=>Ac f Z λa f=>Aa ?_
      rcases Af aG with⟨fm,aG⟩|⟨fm,aG⟩
      ·refine Al f Z fm ?_
       refine Ae ?_
       refine Ab f Z λa f=>Ab f Z λa f=> ?_
       have⟨fo,fp,aG⟩:=bind_some aG
       refine A4 T35 f Z Z Z a2 fp λfq fs a ft fu f=> ?_
       subst fu
       refine Ax m Pl2 f Z Z ft λa f=> ?_
       have⟨fv,fw,aG⟩:=bind_some aG
       refine Bi 4 m aJ Z Dy f Z Z Z fw λfx a fy f=>Bk 4 m aJ Z Pl88 f Z Z fy fw λfz a fA f=>CE m fA underlying88 f Z Z λfB fC fD w a m fE fF f=>Aa ?_
       have⟨fG,fH,aG⟩:=bind_some aG
       refine AM (λa w=>∃fI:A5,fI=fG∧∃(fJ:GH) (fK:Itm),GLe a9 fJ∧Fr a 181 [(1,v1),(3,(pb am)),(5,(pb an)),(7,aD),(10,a7),(12,a0),(29,aa),(30,(iv (ae.length:Int))),(31,(iv aB))]∧Mem W fJ w (ib am 38 [aa,ab,ac,ad]::ib an 94 [(.func (.func 45) #[] #[]),(.func (.func 46) #[] #[(pb b2_1c0)]),(.func (.func 48) #[] #[]),(.func (.func 49) #[] #[]),(.func (.func 42) #[] #[])]::ib b2_1c0 62 [v2_1c0_0]::aE::fK::H)∧OwMf BL fJ fK a7 fI) ?_ ?_
       ·refine Ak ?_
        have m:=m.fr 5
        have m:=m.fr 5
        have m:Mem W a9 w (ib an 94 [(.func (.func 45) #[] #[]),(.func (.func 46) #[] #[(pb b2_1c0)]),(.func (.func 48) #[] #[]),(.func (.func 49) #[] #[]),(.func (.func 42) #[] #[])]::ib b2_1c0 62 [v2_1c0_0]::aE::fB::a6::ib am 38 [aa,ab,ac,ad]::H):=m.fr 5
        have m:=m.fr 5
        have m:Mem W a9 w (fB::ib am 38 [aa,ab,ac,ad]::ib an 94 [(.func (.func 45) #[] #[]),(.func (.func 46) #[] #[(pb b2_1c0)]),(.func (.func 48) #[] #[]),(.func (.func 49) #[] #[]),(.func (.func 42) #[] #[])]::ib b2_1c0 62 [v2_1c0_0]::aE::a6::H):=m.fr 4
        refine Df (λfL fM a w=>∃fN:A5,fN=fL∧∃(fO:GH) (fP:Itm) (fQ:Itm),GLe a9 fO∧Fr a 181 [(1,v1),(3,(pb am)),(5,(pb an)),(7,aD),(10,a7),(12,a0),(29,aa),(30,(iv (ae.length:Int))),(31,(iv aB)),(134,fC)]∧Mem W fO w (fP::ib am 38 [aa,ab,ac,ad]::ib an 94 [(.func (.func 45) #[] #[]),(.func (.func 46) #[] #[(pb b2_1c0)]),(.func (.func 48) #[] #[]),(.func (.func 49) #[] #[]),(.func (.func 42) #[] #[])]::ib b2_1c0 62 [v2_1c0_0]::aE::fQ::H)∧RgA BL fO fP fC fM∧OwMf BL fO fQ a7 fN) fH fF ⟨_,Z,_,fB,a6,gr,f.k Z,m,fE,a8⟩ ?_
        clear fH f m
        rintro fL fM fR a w ⟨fN,rfl,fO,fP,fQ,fS,f,m,fT,fU⟩
        have h1:=RMf.mono mfT _ _ _ _ fS h1
        have a2:=rd1 fS a2
        have h2_1c0_0:=rd1 fS h2_1c0_0
        have aJ:=Ow.mono (RMf.mono mfT) fS aJ
        refine Ae ?_
        refine C1 (enc:=BL) Mf69.inj 0 m fT Z f Z Z (λfV a f=> ?_) λfW fX fY w a fZ m f0 f=> ?_
        ·have f1:=CH fR fV
         subst f1
         have m:Mem W fO w (ib am 38 [aa,ab,ac,ad]::ib an 94 [(.func (.func 45) #[] #[]),(.func (.func 46) #[] #[(pb b2_1c0)]),(.func (.func 48) #[] #[]),(.func (.func 49) #[] #[]),(.func (.func 42) #[] #[])]::ib b2_1c0 62 [v2_1c0_0]::aE::fQ::H):=m.eraseAt 0
         refine l_o f (AF (f.e Z) Z) λa f=>Aa (Ag ?_)
         refine Ai f Z Z ?_
         refine AG Z ?_
         exact⟨_,Z,_,fQ,fS,f.k Z,m,fU⟩
        ·obtain⟨f2,f3,f4⟩:=Cv fR fZ
         have f5:=CX fZ
         refine l_o f (AF (f.e Z) Z) λa f=>Aa (Ag ?_)
         refine Al f Z Z ?_
         refine Am ?_
         refine Ak (Ae ?_)
         refine CG 0 m f0 Z f Z Z λa f=>l_o f (AF (f.e Z) Z) λa f=>l_o f (AF (f.e Z) Z) λa f=>Ac f Z λa f=>Ac f Z λa f=>AD ?_
         refine Ab f Z λa f=>Ab f Z λa f=> ?_
         have⟨f6,f7,f3⟩:=bind_some f3
         refine A4 T35 f Z Z Z a2 f7 λf8 f9 a ga gb f=> ?_
         subst gb
         refine Ax m Pl2 f Z Z ga λa f=> ?_
         have⟨gc,gd,f3⟩:=bind_some f3
         refine Bi 4 m aJ Z Dy f Z Z Z gd λge a gf f=>Bk 4 m aJ Z Pl88 f Z Z gf gd λgg a gh f=>CE m gh underlying88 f Z Z λgi gj gk w a m gl gm f=>Aa ?_
         have⟨gn,go,f3⟩:=bind_some f3
         refine AM (λa w=>∃gp:A5,gp=gn∧∃(gq:GH) (gs:Itm),GLe fO gq∧Fr a 181 [(1,v1),(3,(pb am)),(5,(pb an)),(7,aD),(10,a7),(12,a0),(21,(.int .u32 fW.1)),(22,(iv fW.2)),(29,aa),(30,(iv (ae.length:Int))),(31,(iv aB)),(134,fC)]∧Mem W gq w (fY::ib am 38 [aa,ab,ac,ad]::ib an 94 [(.func (.func 45) #[] #[]),(.func (.func 46) #[] #[(pb b2_1c0)]),(.func (.func 48) #[] #[]),(.func (.func 49) #[] #[]),(.func (.func 42) #[] #[])]::ib b2_1c0 62 [v2_1c0_0]::aE::gs::H)∧OwMf BL gq gs a7 gp) ?_ ?_
         ·refine Ak ?_
          refine Df (λgu gv a w=>∃gw:A5,gw=gu∧∃(gx:GH) (gy:Itm) (gz:Itm),GLe fO gx∧Fr a 181 [(1,v1),(3,(pb am)),(5,(pb an)),(7,aD),(10,a7),(12,a0),(21,(.int .u32 fW.1)),(22,(iv fW.2)),(29,aa),(30,(iv (ae.length:Int))),(31,(iv aB)),(134,fC),(146,gj)]∧Mem W gx w (gy::fY::ib am 38 [aa,ab,ac,ad]::ib an 94 [(.func (.func 45) #[] #[]),(.func (.func 46) #[] #[(pb b2_1c0)]),(.func (.func 48) #[] #[]),(.func (.func 49) #[] #[]),(.func (.func 42) #[] #[])]::ib b2_1c0 62 [v2_1c0_0]::aE::gz::H)∧RgA BL gx gy gj gv∧OwMf BL gx gz a7 gw) go gm ⟨_,Z,_,gi,fQ,gr,f.k Z,m,gl,fU⟩ ?_
          clear go f m
          rintro gu gv gA a w ⟨gw,rfl,gx,gy,gz,gB,f,m,gC,gD⟩
          have h1:=RMf.mono mfT _ _ _ _ gB h1
          have f0:=RgF.mono gB f0
          have h2_1c0_0:=rd1 gB h2_1c0_0
          refine Ae ?_
          refine C1 (enc:=BL) Mf69.inj 0 m gC Z f Z Z (λgE a f=> ?_) λgF gG gH w a gI m gJ f=> ?_
          ·have gK:=CH gA gE
           subst gK
           have m:Mem W gx w (fY::ib am 38 [aa,ab,ac,ad]::ib an 94 [(.func (.func 45) #[] #[]),(.func (.func 46) #[] #[(pb b2_1c0)]),(.func (.func 48) #[] #[]),(.func (.func 49) #[] #[]),(.func (.func 42) #[] #[])]::ib b2_1c0 62 [v2_1c0_0]::aE::gz::H):=m.eraseAt 0
           refine l_o f (AF (f.e Z) Z) λa f=>Aa (Ag ?_)
           refine Ai f Z Z ?_
           refine AG Z ?_
           exact⟨_,Z,_,gz,gB,f.k Z,m,gD⟩
          ·obtain⟨gL,gM,gN⟩:=Cv gA gI
           have gO:=CX gI
           refine l_o f (AF (f.e Z) Z) λa f=>Aa (Ag ?_)
           refine Al f Z Z ?_
           refine Am ?_
           refine Ak (Ae ?_)
           refine CG 0 m gJ Z f Z Z λa f=>l_o f (AF (f.e Z) Z) λa f=>l_o f (AF (f.e Z) Z) λa f=>Ac f Z λa f=>Ac f Z λa f=>AD ?_
           refine AW underlying94 Z sizeOf92 f Z λa f=>As 3 2 m Pl92 f Z Z Z Z λa f=>Ab f Z λa f=>Ab f Z λa f=> ?_
           have⟨gP,gQ,gM⟩:=bind_some gM
           refine CL f Z Z Z call48 (Wk.W0 m gQ) λgR gS gT w gU m gV a f=> ?_
           obtain⟨rfl,rfl⟩:=gV
           have h1:=RMf.mono mfT _ _ _ _ gU h1
           have gJ:=RgF.mono gU gJ
           have f0:=RgF.mono gU f0
           have h2_1c0_0:=rd1 gU h2_1c0_0
           have gD:=OwMf.mono mfT gU gD
           refine Ab f Z λa f=>l_o f (AF (f.e Z) Z) λa f=>l_o f (AF (f.e Z) Z) λa f=>Ac f Z λa f=>Ac f Z λa f=>AD ?_
           refine Ab f Z λa f=>Aa ?_
           rcases Af gM with⟨gW,gM⟩|⟨gW,gM⟩
           ·refine Al f Z gW ?_
            have m:Mem W gS w (gz::gH::fY::ib am 38 [aa,ab,ac,ad]::ib an 94 [(.func (.func 45) #[] #[]),(.func (.func 46) #[] #[(pb b2_1c0)]),(.func (.func 48) #[] #[]),(.func (.func 49) #[] #[]),(.func (.func 42) #[] #[])]::ib b2_1c0 62 [v2_1c0_0]::aE::H):=m.fr 6
            refine E8 [gz] (gH::fY::ib am 38 [aa,ab,ac,ad]::ib an 94 [(.func (.func 45) #[] #[]),(.func (.func 46) #[] #[(pb b2_1c0)]),(.func (.func 48) #[] #[]),(.func (.func 49) #[] #[]),(.func (.func 42) #[] #[])]::ib b2_1c0 62 [v2_1c0_0]::aE::H) 9 AU (by kernel_rfl) m ?_
            refine BE (i:=0) (ds:=[(.func (.func 45) #[] #[]),(.func (.func 46) #[] #[(pb b2_1c0)]),(.func (.func 48) #[] #[]),(.func (.func 49) #[] #[]),(.func (.func 42) #[] #[])]) 9 3 Ag94 Z Z Z Z (by kernel_rfl) Z f Z Z Z λa f=>An 1 9 Z f Z λa f=>An 2 9 Z f Z λa f=>Bt 3 9 underlying94 Z sizeOf83 Z f Z λa f=>Br 4 9 3 Pl83 Z Z Z f Z λa f=>An 5 9 Z f Z λa f=>An 6 9 Z f Z λa f=> ?_
            have⟨gX,gY,gM⟩:=bind_some gM
            refine q_callv (i:=7) 9 Z (by kernel_rfl) Z f Z Z Z Z call49 (λ_ _ w gZ m=>Wk.k1 m gY) λa f=>BC 8 Z λg0 w g1 m g2 g2=> ?_
            have h1:=RMf.mono mfT _ _ _ _ g1 h1
            have gD:=OwMf.mono mfT g1 gD
            have gJ:=RgF.mono g1 gJ
            have f0:=RgF.mono g1 f0
            have h2_1c0_0:=rd1 g1 h2_1c0_0
            have m:Mem W g0 w (ib b2_1c0 62 [v2_1c0_0]::gz::gH::fY::ib am 38 [aa,ab,ac,ad]::ib an 94 [(.func (.func 45) #[] #[]),(.func (.func 46) #[] #[(pb b2_1c0)]),(.func (.func 48) #[] #[]),(.func (.func 49) #[] #[]),(.func (.func 42) #[] #[])]::aE::H):=m.fr 5
            have⟨g3,g4,gM⟩:=bind_some gM
            refine AX f Z call88 (Wk.E m h2_1c0_0 gD g4) λg5 g6 g7 w g8 m g9 a f=> ?_
            obtain⟨ha,rfl,hb⟩:=g9
            have h1:=RMf.mono mfT _ _ _ _ g8 h1
            have gJ:=RgF.mono g8 gJ
            have f0:=RgF.mono g8 f0
            refine Aa ?_
            have m:=m.fr 5
            have m:=m.fr 5
            have m:Mem W g6 w (fY::ib am 38 [aa,ab,ac,ad]::ib an 94 [(.func (.func 45) #[] #[]),(.func (.func 46) #[] #[(pb b2_1c0)]),(.func (.func 48) #[] #[]),(.func (.func 49) #[] #[]),(.func (.func 42) #[] #[])]::ib b2_1c0 62 [v2_1c0_0]::ha::gH::aE::H):=m.fr 5
            have m:=m.fr 5
            have m:Mem W g6 w (ha::gH::fY::ib am 38 [aa,ab,ac,ad]::ib an 94 [(.func (.func 45) #[] #[]),(.func (.func 46) #[] #[(pb b2_1c0)]),(.func (.func 48) #[] #[]),(.func (.func 49) #[] #[]),(.func (.func 42) #[] #[])]::ib b2_1c0 62 [v2_1c0_0]::aE::H):=m.fr 5
            refine g2 g6 [ha] _ _ g8 m ?_
            refine A2 λhc w he m=> ?_
            have h1:=RMf.mono mfT _ _ _ _ he h1
            have hb:=OwMf.mono mfT he hb
            have gJ:=RgF.mono he gJ
            have f0:=RgF.mono he f0
            refine Aa ?_
            have m:=m.fr 6
            have m:=m.fr 6
            have m:Mem W hc w (ib an 94 [(.func (.func 45) #[] #[]),(.func (.func 46) #[] #[(pb b2_1c0)]),(.func (.func 48) #[] #[]),(.func (.func 49) #[] #[]),(.func (.func 42) #[] #[])]::ib b2_1c0 62 [v2_1c0_0]::aE::ha::gH::fY::ib am 38 [aa,ab,ac,ad]::H):=m.fr 6
            have m:=m.fr 6
            have m:=m.fr 6
            have m:Mem W hc w (gH::fY::ib am 38 [aa,ab,ac,ad]::ib an 94 [(.func (.func 45) #[] #[]),(.func (.func 46) #[] #[(pb b2_1c0)]),(.func (.func 48) #[] #[]),(.func (.func 49) #[] #[]),(.func (.func 42) #[] #[])]::ib b2_1c0 62 [v2_1c0_0]::aE::ha::H):=m.fr 6
            obtain rfl:=sj gM
            exact⟨_,_,gO,gN,_,Z,_,gH,ha,(gt gB (gt gU (gt g1 (gt g8 he)))),f.k Z,m,gJ.any,hb⟩
           ·refine Ai f Z gW ?_
            refine Am ?_
            obtain rfl:=sj gM
            exact⟨_,_,gO,gN,_,Z,_,gH,gz,(gt gB gU),f.k Z,m,gJ.any,gD⟩
         ·rintro a w ⟨gp,rfl,gq,gs,hf,f,m,hg⟩
          have h1:=RMf.mono mfT _ _ _ _ hf h1
          have f0:=RgF.mono hf f0
          obtain rfl:=sj f3
          exact⟨_,_,f5,f4,_,Z,_,fY,gs,(gt fS hf),f.k Z,m,f0.any,hg⟩
       ·rintro a w ⟨fI,rfl,fJ,fK,hh,f,m,hi⟩
        have h1:=RMf.mono mfT _ _ _ _ hh h1
        have aJ:=Ow.mono (RMf.mono mfT) hh aJ
        refine Aj ?_
        refine Ab f Z λa f=>Ab f Z λa f=> ?_
        have m:Mem W fJ w (fK::ib am 38 [aa,ab,ac,ad]::ib an 94 [(.func (.func 45) #[] #[]),(.func (.func 46) #[] #[(pb b2_1c0)]),(.func (.func 48) #[] #[]),(.func (.func 49) #[] #[]),(.func (.func 42) #[] #[])]::ib b2_1c0 62 [v2_1c0_0]::aE::H):=m.fr 4
        obtain⟨hj,hk,m,hl⟩:=OwMf.stamp mfT hi m
        have h1:=RMf.mono mfT _ _ _ _ hk h1
        have aJ:=Ow.mono (RMf.mono mfT) hk aJ
        refine A7 (R:=(RMf BL)) (xs:=([fI]:List A5)) (RMf.one _) m Dy f Z Z Z (by decide) (All2.cons hl (All2.nil _)) λhm hn w a m ho f=> ?_
        have⟨hp,hq,aG⟩:=bind_some aG
        refine Bh (RMf.one _) 4 m aJ Z Dy Z (by decide) f Z Z Z (Ow.src (j:=0) ho m Z) hq λhr hs w a m ht f=>Ac f Z λa f=>Aa (Aj ?_)
        refine Ah f Z Z AB λa f=>Ab f Z λa f=>Aa ?_
        have m:=m.fr 4
        have m:=m.fr 4
        have m:Mem W hj w (ib an 94 [(.func (.func 45) #[] #[]),(.func (.func 46) #[] #[(pb b2_1c0)]),(.func (.func 48) #[] #[]),(.func (.func 49) #[] #[]),(.func (.func 42) #[] #[])]::ib b2_1c0 62 [v2_1c0_0]::hr::hm::ib am 38 [aa,ab,ac,ad]::H):=m.fr 4
        have m:=m.fr 4
        have m:Mem W hj w (ib am 38 [aa,ab,ac,ad]::ib an 94 [(.func (.func 45) #[] #[]),(.func (.func 46) #[] #[(pb b2_1c0)]),(.func (.func 48) #[] #[]),(.func (.func 49) #[] #[]),(.func (.func 42) #[] #[])]::ib b2_1c0 62 [v2_1c0_0]::hr::H):=m.eraseAt 4
        obtain rfl:=sj aG
        exact⟨_,Z,_,_,Z,_,hs,hr,(gt aI (gt a4 (gt ba (gt hh hk)))),f.k Z,m,ht⟩
      ·refine Ai f Z fm ?_
       refine Am ?_
       refine Aj ?_
       refine Ab f Z λa f=>Ab f Z λa f=> ?_
       obtain⟨hu,hv,m,hw⟩:=OwMf.stamp mfT a8 m
       have h1:=RMf.mono mfT _ _ _ _ hv h1
       have aJ:=Ow.mono (RMf.mono mfT) hv aJ
       refine A7 (R:=(RMf BL)) (xs:=([(mf0:A5)]:List A5)) (RMf.one _) m Dy f Z Z Z (by decide) (All2.cons hw (All2.nil _)) λhx hy w a m hz f=> ?_
       have⟨hA,hB,aG⟩:=bind_some aG
       refine Bh (RMf.one _) 4 m aJ Z Dy Z (by decide) f Z Z Z (Ow.src (j:=0) hz m Z) hB λhC hD w a m hE f=>Ac f Z λa f=>Aa (Aj ?_)
       refine Ah f Z Z AB λa f=>Ab f Z λa f=>Aa ?_
       have m:=m.fr 4
       have m:=m.fr 4
       have m:Mem W hu w (ib an 94 [(.func (.func 45) #[] #[]),(.func (.func 46) #[] #[(pb b2_1c0)]),(.func (.func 48) #[] #[]),(.func (.func 49) #[] #[]),(.func (.func 42) #[] #[])]::ib b2_1c0 62 [v2_1c0_0]::hC::hx::ib am 38 [aa,ab,ac,ad]::H):=m.fr 4
       have m:=m.fr 4
       have m:Mem W hu w (ib am 38 [aa,ab,ac,ad]::ib an 94 [(.func (.func 45) #[] #[]),(.func (.func 46) #[] #[(pb b2_1c0)]),(.func (.func 48) #[] #[]),(.func (.func 49) #[] #[]),(.func (.func 42) #[] #[])]::ib b2_1c0 62 [v2_1c0_0]::hC::H):=m.eraseAt 4
       obtain rfl:=sj aG
       exact⟨_,Z,_,_,Z,_,hD,hC,(gt aI (gt a4 (gt ba hv))),f.k Z,m,hE⟩
  ·refine Ai f Z aK ?_
   refine AG Z ?_
   have m:=m.fr 3
   have m:=m.fr 3
   have m:Mem W aC w (ib b2_1c0 62 [v2_1c0_0]::aE::ib am 38 [aa,ab,ac,ad]::H):=m.eraseAt 3
   have m:=m.eraseAt 2
   obtain rfl:=sj aG
   obtain rfl:=aH _ rfl
   exact⟨_,Z,_,aD,aE,aI,f.k Z,m,aJ⟩
 ·rintro a w ⟨av,rfl,aw,ax,ay,hF,f,m,hG⟩
  refine Ae ?_
  refine Ab f Z λa f=>Ab f Z λa f=>B4 1 m hG Z underlying124 f Z Z λa f=>Ah f Z Z Ck λa f=> ?_
  have⟨hH,hI,hd⟩:=bind_some hd
  refine Bi 1 m hG Z Dy f Z Z Z hI λhJ a hK f=>Bk 1 m hG Z Pl88 f Z Z hK hI λhL a hM f=>Ac f Z λa f=>Aa ?_
  refine Ap ?_
  have m:=m.eraseAt 1
  obtain rfl:=sj hd
  exact⟨[hL],f.g Z,f.d,_,[ib b2_1c0 62 [v2_1c0_0]],hF,m,_,Z,Z,hM⟩
theorem Wk.d {aa ab ac ad ae:Value}{af:LL}{ag ah:LI}{ai aj:LL}(hW:Dc W)(m:Mem W G w (H))(ak:R2 G aa af)(al:R1 G ab ag)(am:R1 G ac ah)(an:R2 G ad ai)(ao:R2 G ae aj){y:Int}(hd:D.d af ag ah ai aj=some y):
  Calls prog 12 #[(.agg #[aa]),(.agg #[ab,ac,ad,ae])] w (Res W G H (λ_ Ho v=>Ho=[]∧v=(iv y))):=by
 refine Au (args:=[(.agg #[aa]),(.agg #[ab,ac,ad,ae])]) (N:=21) [.tmp 4] func12 Z Z (lb Z) Z λa f=> ?_
 unfold D.d at hd
 refine Ae ?_
 refine Bo (cs:=[aa]) m f Z Z Z λap w a m f=>Bo (cs:=[ab,ac,ad,ae]) m f Z Z Z λaq w a m f=>Ac f Z λa f=>Aa (Ag (Ae ?_))
 refine AC 1 0 (ds:=[aa]) m Bv f Z Z Z Z Z λa f=>AC 0 0 (ds:=[ab,ac,ad,ae]) m DJ f Z Z Z Z Z λa f=> ?_
 have⟨ar,au,hd⟩:=bind_some hd
 refine Bd f Z call34 (Wk.q m ak al am an ao au) λav w aw m a f=> ?_
 have ak:=rd2 aw ak
 have al:=rd1 aw al
 have am:=rd1 aw am
 have an:=rd2 aw an
 have ao:=rd2 aw ao
 refine l_o f (By (f.e Z)) λa f=>Aa ?_
 rcases Af hd with⟨ax,hd⟩|⟨ax,hd⟩
 ·refine Al f Z ax ?_
  refine Ae ?_
  refine Ac f Z λa f=>Aa ?_
  refine Ap ?_
  have m:Mem W av w H:=Mem.drop (H':=[ib aq 38 [ab,ac,ad,ae],ib ap 29 [aa]]) m
  obtain rfl:=sj hd
  exact⟨[(iv (-1))],f.g Z,f.d,_,[],aw,m,Z,Z⟩
 ·refine Ai f Z ax ?_
  refine Am ?_
  refine Ae ?_
  refine AC 1 0 (ds:=[aa]) m Bv f Z Z Z Z Z λa f=> ?_
  have⟨ay,az,hd⟩:=bind_some hd
  refine AX f Z call36 (Wk.u m ak az) λaA aB aC w aD m aE a f=> ?_
  obtain⟨aF,aG,rfl,rfl,aH⟩:=aE
  have al:=rd1 aD al
  have am:=rd1 aD am
  have an:=rd2 aD an
  have ao:=rd2 aD ao
  refine Bp (cs:=[sn]) zeroValue62 m f Z Z λaI w a m f=>AA 0 0 (ds:=[aF]) m sizeOf62 f Z Z (Ow.cells 1 m aH Z) (Ao (Ow.one1 1 m aH Z) AK) Z (lb Z) Z λw m=>AD ?_
  refine Ek f Z Z Z λa f=> ?_
  have aJ:∀w,(Instr.build 94 #[(0,(.func (.func 45) #[] #[])),(1,(.func (.func 46) #[] #[(pb aI)])),(2,(.func (.func 48) #[] #[])),(3,(.func (.func 49) #[] #[])),(4,(.func (.func 42) #[] #[]))]).run prog w= .ok (.agg #[(.func (.func 45) #[] #[]),(.func (.func 46) #[] #[(pb aI)]),(.func (.func 48) #[] #[]),(.func (.func 49) #[] #[]),(.func (.func 42) #[] #[])]) w:=by intro w;simp[Instr.build,Instr.fill,BX,BQ,BD,BI,BA,BW,BP]
  refine CS f Z Z aJ λa f=>Bp (cs:=[.nilFunc,.nilFunc,.nilFunc,.nilFunc,.nilFunc]) zeroValue94 m f Z Z λaK w a m f=>AA 0 0 (ds:=[(.func (.func 45) #[] #[]),(.func (.func 46) #[] #[(pb aI)]),(.func (.func 48) #[] #[]),(.func (.func 49) #[] #[]),(.func (.func 42) #[] #[])]) m sizeOf94 f Z Z Z (Ao Z (Ao Z (Ao Z (Ao Z (Ao Z AK))))) Z (lb Z) Z λw m=>AD ?_
  refine AC 3 0 (ds:=[ab,ac,ad,ae]) m DJ f Z Z Z Z Z λa f=>D8 BL m f Z λaL aM w a m aN f=>FQ Mf69 (i:=0) 0 m aN Z underlying88 f Z Z Z λaO w m aP=>Ab f Z λa f=>AC 1 0 (ds:=[(.func (.func 45) #[] #[]),(.func (.func 46) #[] #[(pb aI)]),(.func (.func 48) #[] #[]),(.func (.func 49) #[] #[]),(.func (.func 42) #[] #[])]) m Ag94 f Z Z Z Z Z λa f=> ?_
  obtain⟨aQ,aR,m,aS⟩:=OwMf.stamp mfT aP m
  have al:=rd1 aR al
  have am:=rd1 aR am
  have an:=rd2 aR an
  have ao:=rd2 aR ao
  have aH:=od1 aR aH
  have m:Mem W aQ w (aG::ib aK 94 [(.func (.func 45) #[] #[]),(.func (.func 46) #[] #[(pb aI)]),(.func (.func 48) #[] #[]),(.func (.func 49) #[] #[]),(.func (.func 42) #[] #[])]::ib aI 62 [aF]::ib aq 38 [ab,ac,ad,ae]::ib ap 29 [aa]::H):=m.fr 2
  obtain⟨aT,aU,m,aV⟩:=Ow.stamp (RI.mono _) aH m
  have al:=rd1 aU al
  have am:=rd1 aU am
  have an:=rd2 aU an
  have ao:=rd2 aU ao
  have aS:=RMf.mono mfT _ _ _ _ aU aS
  have m:Mem W aT w (ib aI 62 [aF]::ib aK 94 [(.func (.func 45) #[] #[]),(.func (.func 46) #[] #[(pb aI)]),(.func (.func 48) #[] #[]),(.func (.func 49) #[] #[]),(.func (.func 42) #[] #[])]::ib aq 38 [ab,ac,ad,ae]::ib ap 29 [aa]::H):=m.fr 1
  have⟨aW,aX,hd⟩:=bind_some hd
  refine AX f Z call50 (Wk.v0 hW m al am an ao aS aV aX) λaY aZ a0 w a1 m a2 a f=> ?_
  obtain⟨a3,rfl,rfl,a4⟩:=a2
  have aS:=RMf.mono mfT _ _ _ _ a1 aS
  refine l_lookRMf0 Mf69 (i:=0) m a4 underlying88 zeroValue2 f Z Z Z λa f=>Ac f Z λa f=>Aa ?_
  refine Ap ?_
  have m:Mem W aZ w H:=Mem.drop (H':=[ib aI 62 [aF],ib aK 94 [(.func (.func 45) #[] #[]),(.func (.func 46) #[] #[(pb aI)]),(.func (.func 48) #[] #[]),(.func (.func 49) #[] #[]),(.func (.func 42) #[] #[])],ib aq 38 [ab,ac,ad,ae],ib ap 29 [aa]]) m
  obtain rfl:=sj hd
  exact⟨[(iv ((aW 0).getD 0))],f.g Z,f.d,_,[],(gt aw (gt aD (gt aR (gt aU a1)))),m,Z,Z⟩
theorem Wk.q0 {x0:Int}(m:Mem W G w (H)){y:Int}(hd:D.q0 x0=some y):
  Calls prog 89 #[(iv x0)] w (Res W G H (λ_ Ho v=>Ho=[]∧v=(iv y))):=by
 refine Au (args:=[(iv x0)]) (N:=13) [.tmp 2] func89 Z Z (lb Z) Z λa f=> ?_
 unfold D.q0 at hd
 refine Ae ?_
 refine Ac f Z λa f=>AD ?_
 refine Ac f Z λa f=>Aa (Ag ?_)
 have⟨aa,ab,hd⟩:=bind_some hd
 refine AM (λa w=>∃ac:Int,ac=aa∧∃(ad:GH),GLe G ad∧Fr a 13 [(3,(iv ac))]∧Mem W ad w (H)) ?_ ?_
 ·refine Ak ?_
  refine AO (λae a w=>∃af:Int,af=ae∧∃(ag:GH),GLe G ag∧Fr a 13 [(0,(iv x0)),(3,(iv af))]∧Mem W ag w (H)) ab ⟨_,Z,_,gr,f.k Z,m⟩ ?_
  clear ab f m
  rintro ae ah ai aj a w ⟨af,rfl,ag,ak,f,m⟩
  refine Ag (Ae ?_)
  refine Ab f Z λa f=>Ab f Z λa f=>l_o f (C2 (f.e Z) ⟨_,underlying2⟩ underlying100) λa f=> ?_
  obtain⟨al,ai⟩:=Ci ai
  refine l_o f (r_shr (f.e Z) (f.e Z) al) λa f=>Ah f Z Z CC λa f=>Ah f Z Z Bj λa f=>Aa ?_
  rcases Af ai with⟨am,ai⟩|⟨am,ai⟩
  ·refine Al f Z am ?_
   refine Am ?_
   refine Ak (Aj ?_)
   refine Ab f Z λa f=>Ah f Z Z AB λa f=>Ac f Z λa f=>Aa ?_
   obtain rfl:=sj ai
   exact⟨_,Z,_,Z,_,ak,f.k Z,m⟩
  ·refine Ai f Z am ?_
   refine AG Z ?_
   obtain rfl:=sj ai
   obtain rfl:=aj _ rfl
   exact⟨_,Z,_,ak,f.k Z,m⟩
 ·rintro a w ⟨ac,rfl,ad,an,f,m⟩
  refine Ae ?_
  refine Ab f Z λa f=>Ac f Z λa f=>Aa ?_
  refine Ap ?_
  obtain rfl:=sj hd
  exact⟨[(iv ac)],f.g Z,f.d,_,[],an,m,Z,Z⟩
theorem Wk.p0 {v0:Value}{x0:LI}{x1:Bool}(m:Mem W G w (H))(h0:R1 G v0 x0){y:Int}(hd:D.p0 x0 x1=some y):
  Calls prog 51 #[v0,(.bool x1)] w (Res W G H (λ_ Ho v=>Ho=[]∧v=(iv y))):=by
 refine Au (args:=[v0,(.bool x1)]) (N:=73) [.tmp 4] func51 Z Z (lb Z) Z λa f=> ?_
 unfold D.p0 at hd
 refine Ae ?_
 refine Ac f Z λa f=>AD ?_
 refine Ab f Z λa f=>AL underlying35 f Z Z h0 λa f=>l_o f (C2 (f.e Z) ⟨_,underlying3⟩ underlying100) λa f=> ?_
 obtain⟨aa,hd⟩:=Ci hd
 refine l_o f (r_shl (f.e Z) (f.e Z) aa) λa f=> ?_
 have⟨ab,ac,hd⟩:=bind_some hd
 refine Co (R:=R0) m T35 Z (by decide) Z f Z Z Z ac λad ae w a m af f=>Ac f Z λa f=>AD ?_
 refine Ab f Z λa f=> ?_
 have⟨ag,ah,hd⟩:=bind_some hd
 refine Bi 0 m af Z T35 f Z Z Z ah λai a aj f=>BN 0 m af Z sizeOf2 f Z Z aj ah Z Z Z λak w m al=>Aa (Ag (Ae ?_))
 refine Ac f Z λa f=>Aa ?_
 have⟨am,an,hd⟩:=bind_some hd
 refine AM (λa w=>∃ao:LI,ao=am∧∃(ap:GH) (aq:Itm),GLe G ap∧Fr a 73 [(5,ae)]∧Mem W ap w (aq::H)∧Ow R0 2 ap aq ae ao) ?_ ?_
 ·refine Ak ?_
  refine AO (λar a w=>∃au:LI,∃av:Int,(au,av)=ar∧∃(aw:GH) (ax:Itm),GLe G aw∧Fr a 73 [(0,v0),(1,(.bool x1)),(5,ae),(6,(iv av))]∧Mem W aw w (ax::H)∧Ow R0 2 aw ax ae au) an ⟨_,_,Z,_,ak,gr,f.k Z,m,al⟩ ?_
  clear an f m
  rintro ar ay az aA a w ⟨au,av,rfl,aw,ax,aB,f,m,aC⟩
  have h0:=rd1 aB h0
  refine Ag (Ae ?_)
  refine Ab f Z λa f=>Ab f Z λa f=>B4 0 m aC Z underlying35 f Z Z λa f=>Ah f Z Z AR λa f=>Aa ?_
  rcases Af az with⟨aD,az⟩|⟨aD,az⟩
  ·refine Al f Z aD ?_
   refine Am ?_
   refine Ag (Ak (Ae ?_))
   refine Ab f Z λa f=> ?_
   have⟨aE,aF,az⟩:=bind_some az
   refine Bd f Z call89 (Wk.q0 m aF) λaG w aH m a f=> ?_
   have h0:=rd1 aH h0
   have aC:=od1 aH aC
   refine Ac f Z λa f=>AD ?_
   refine Ab f Z λa f=>Ab f Z λa f=>Ah f Z Z Ck λa f=>Ah f Z Z CC λa f=>Ac f Z λa f=>Aa (Ag (Ae ?_))
   refine Ab f Z λa f=>l_o f (By (f.e Z)) λa f=>Aa ?_
   have⟨aI,aJ,az⟩:=bind_some az
   refine AM (λa w=>∃aK:LI,aK=aI∧∃(aL:GH) (aM:Itm),GLe aG aL∧Fr a 73 [(0,v0),(1,(.bool x1)),(5,ae),(6,(iv av)),(7,(iv aE)),(8,(iv (iand .i64 av (i64.wrap (av-1)))))]∧Mem W aL w (aM::H)∧Ow R0 2 aL aM ae aK) ?_ ?_
   ·rcases Af aJ with⟨aN,aJ⟩|⟨aN,aJ⟩
    ·refine Al f Z aN ?_
     refine Aj ?_
     refine Ab f Z λa f=>Ab f Z λa f=>Ab f Z λa f=>Ab f Z λa f=> ?_
     have⟨aO,aP,aJ⟩:=bind_some aJ
     refine Bi 0 m aC Z T35 f Z Z Z aP λaQ a aR f=>Bk 0 m aC Z Pl2 f Z Z aR aP λaS a aT f=> ?_
     subst aT
     have⟨aU,aV,aJ⟩:=bind_some aJ
     refine Bi 0 m aC Z T35 f Z Z Z aV λaW a aX f=>BN 0 m aC Z sizeOf2 f Z Z aX aV Z Z Z λaY w m aZ=>Aa ?_
     obtain rfl:=sj aJ
     exact⟨_,Z,_,aY,gr,f.k Z,m,aZ⟩
    ·refine Ai f Z aN ?_
     refine Am ?_
     obtain rfl:=sj aJ
     exact⟨_,Z,_,ax,gr,f.k Z,m,aC⟩
   ·rintro a w ⟨aK,rfl,aL,aM,a0,f,m,a1⟩
    have h0:=rd1 a0 h0
    refine Ae ?_
    refine Ab f Z λa f=>Ab f Z λa f=> ?_
    have⟨a2,a3,az⟩:=bind_some az
    refine A4 T35 f Z Z Z h0 a3 λa4 a5 a a6 a7 f=> ?_
    subst a7
    refine Ax m Pl2 f Z Z a6 λa f=>Ab f Z λa f=>Ah f Z Z CC λa f=>Ac f Z λa f=>Aa ?_
    have⟨a8,a9,az⟩:=bind_some az
    refine AM (λa w=>∃ba:LI,ba=a8∧∃(bb:GH) (bc:Itm),GLe aL bb∧Fr a 73 [(0,v0),(1,(.bool x1)),(5,ae),(6,(iv av))]∧Mem W bb w (bc::H)∧Ow R0 2 bb bc ae ba) ?_ ?_
    ·refine Ak ?_
     refine AO (λbd a w=>∃be:LI,∃bf:Int,(be,bf)=bd∧∃(bg:GH) (bh:Itm),GLe aL bg∧Fr a 73 [(0,v0),(1,(.bool x1)),(5,ae),(6,(iv av)),(8,(iv (iand .i64 av (i64.wrap (av-1))))),(9,(iv bf))]∧Mem W bg w (bh::H)∧Ow R0 2 bg bh ae be) a9 ⟨_,_,Z,_,aM,gr,f.k Z,m,a1⟩ ?_
     clear a9 f m
     rintro bd bi bj bk a w ⟨be,bf,rfl,bg,bh,bl,f,m,bm⟩
     refine Ag (Ae ?_)
     refine Ab f Z λa f=>Ah f Z Z Cz λa f=>Aa ?_
     rcases Af bj with⟨bn,bj⟩|⟨bn,bj⟩
     ·refine Al f Z bn ?_
      refine Am ?_
      refine Ag (Ak ?_)
      refine Bf 17 AU (by kernel_rfl) m ?_
      refine An 0 17 Z f Z λa f=>An 1 17 Z f Z λa f=>An 2 17 Z f Z λa f=>An 3 17 Z f Z λa f=> ?_
      have⟨bo,bp,bj⟩:=bind_some bj
      refine Dp 4 17 0 m bm T35 bp Z f Z Z λbq a br f=>q_ol 5 17 0 bm Pl2 br bp Z f Z λbs a bt f=> ?_
      subst bt
      refine An 6 17 Z f Z λa f=>An 7 17 Z f Z λa f=>An 8 17 Z f Z λa f=>An 9 17 Z f Z λa f=>q_p 10 17 Z f (λ_=>r_neg (f.e Z)) λa f=>q_p 11 17 Z f (λ_=>Bn (f.e Z) (f.e Z) CC) λa f=>q_p 12 17 Z f (λ_=>Bn (f.e Z) (f.e Z) CN) λa f=> ?_
      have⟨bu,bv,bj⟩:=bind_some bj
      refine Dp 13 17 0 m bm T35 bv Z f Z Z λbw a bx f=>q_ol 14 17 0 bm Pl2 bx bv Z f Z λbz a bA f=> ?_
      subst bA
      refine q_p 15 17 Z f (λ_=>Bn (f.e Z) (f.e Z) AB) λa f=> ?_
      have⟨bB,bC,bj⟩:=bind_some bj
      refine Dp 16 17 0 m bm T35 bC Z f Z Z λbD a bE f=>A2 λbF w bG m=> ?_
      have bm:=od1 bG bm
      refine BN 0 m bm Z sizeOf2 f Z Z bE bC Z Z Z λbH w m bI=>Aa (Aj ?_)
      refine Ab f Z λa f=>Ab f Z λa f=>Ah f Z Z Ck λa f=>Ah f Z Z CC λa f=>Ac f Z λa f=>Aa ?_
      obtain rfl:=sj bj
      exact⟨_,Z,_,_,Z,_,bH,(gt bl bG),f.k Z,m,bI⟩
     ·refine Ai f Z bn ?_
      refine AG Z ?_
      obtain rfl:=sj bj
      obtain rfl:=bk _ rfl
      exact⟨_,Z,_,bh,bl,f.k Z,m,bm⟩
    ·rintro a w ⟨ba,rfl,bb,bc,bJ,f,m,bK⟩
     refine Aj ?_
     refine Ab f Z λa f=>Ah f Z Z AB λa f=>Ac f Z λa f=>Aa ?_
     obtain rfl:=sj az
     exact⟨_,Z,_,_,Z,_,bc,(gt aB (gt aH (gt a0 bJ))),f.k Z,m,bK⟩
  ·refine Ai f Z aD ?_
   refine AG Z ?_
   obtain rfl:=sj az
   obtain rfl:=aA _ rfl
   exact⟨_,Z,_,ax,aB,f.k Z,m,aC⟩
 ·rintro a w ⟨ao,rfl,ap,aq,bL,f,m,bM⟩
  refine Ae ?_
  refine Ab f Z λa f=>Ab f Z λa f=>B4 0 m bM Z underlying35 f Z Z λa f=>Ah f Z Z Ck λa f=> ?_
  have⟨bN,bO,hd⟩:=bind_some hd
  refine Bi 0 m bM Z T35 f Z Z Z bO λbP a bQ f=>Bk 0 m bM Z Pl2 f Z Z bQ bO λbR a bS f=> ?_
  subst bS
  refine Ac f Z λa f=>Aa ?_
  refine Ap ?_
  have m:Mem W ap w H:=Mem.drop (H':=[aq]) m
  obtain rfl:=sj hd
  exact⟨[(iv bN)],f.g Z,f.d,_,[],bL,m,Z,Z⟩
theorem Wk.u0 {aa:Value}{ab:LL}(m:Mem W G w (H))(ac:R2 G aa ab){y:Int}(hd:D.u0 ab=some y):
  Calls prog 13 #[(.agg #[aa])] w (Res W G H (λ_ Ho v=>Ho=[]∧v=(iv y))):=by
 refine Au (args:=[(.agg #[aa])]) (N:=9) [.tmp 2] func13 Z Z (lb Z) Z λa f=> ?_
 unfold D.u0 at hd
 refine Ae ?_
 refine Bo (cs:=[aa]) m f Z Z Z λad w a m f=>Ac f Z λa f=>Aa (Ag (Ae ?_))
 refine AC 0 0 (ds:=[aa]) m Bv f Z Z Z Z Z λa f=> ?_
 have⟨ae,af,hd⟩:=bind_some hd
 refine Bd f Z call30 (Wk.t m ac af) λag w ah m a f=> ?_
 have ac:=rd2 ah ac
 refine l_o f (By (f.e Z)) λa f=>Aa ?_
 rcases Af hd with⟨ai,hd⟩|⟨ai,hd⟩
 ·refine Al f Z ai ?_
  refine Ae ?_
  refine Ac f Z λa f=>Aa ?_
  refine Ap ?_
  have m:Mem W ag w H:=Mem.drop (H':=[ib ad 29 [aa]]) m
  obtain rfl:=sj hd
  exact⟨[(iv (-1))],f.g Z,f.d,_,[],ah,m,Z,Z⟩
 ·refine Ai f Z ai ?_
  refine Am ?_
  refine Ae ?_
  refine AC 0 0 (ds:=[aa]) m Bv f Z Z Z Z Z λa f=> ?_
  have⟨aj,ak,hd⟩:=bind_some hd
  refine AX f Z call52 (Wk.A m ac ak) λal am an w ao m ap a f=> ?_
  obtain⟨aq,ar,rfl,rfl,au⟩:=ap
  have⟨av,aw,hd⟩:=bind_some hd
  refine AX f Z call51 (Ow.lendCall (RI.mono _) 0 au m Z (λax ay m az=>Wk.p0 m az aw) (λ_ _ _ _ h=>h)) λaA aB aC w aD m aE a f=> ?_
  obtain⟨rfl,rfl⟩:=aE
  refine Ac f Z λa f=>Aa ?_
  refine Ap ?_
  have m:Mem W aB w H:=Mem.drop (H':=[ar,ib ad 29 [aa]]) m
  obtain rfl:=sj hd
  exact⟨[(iv av)],f.g Z,f.d,_,[],(gt ah (gt ao aD)),m,Z,Z⟩
theorem Wk.K {aa:Value}{ab:LL}(m:Mem W G w (H))(ac:R2 G aa ab){y:Int}(hd:D.K ab=some y):
  Calls prog 53 #[(.agg #[aa])] w (Res W G H (λ_ Ho v=>Ho=[]∧v=(iv y))):=by
 refine Au (args:=[(.agg #[aa])]) (N:=9) [.tmp 2] func53 Z Z (lb Z) Z λa f=> ?_
 unfold D.K at hd
 refine Ae ?_
 refine Bo (cs:=[aa]) m f Z Z Z λad w a m f=>Ac f Z λa f=>AD ?_
 refine AW underlying29 Z sizeOf27 f Z λa f=>As 0 0 m Be f Z Z Z Z λa f=>AL underlying27 f Z Z ac λa f=>l_o f (C2 (f.e Z) ⟨_,underlying3⟩ underlying100) λa f=> ?_
 obtain⟨ae,hd⟩:=Ci hd
 refine l_o f (r_shl (f.e Z) (f.e Z) ae) λa f=>Ah f Z Z Ck λa f=>Ac f Z λa f=>Aa ?_
 refine Ap ?_
 have m:Mem W G w H:=Mem.drop (H':=[ib ad 29 [aa]]) m
 obtain rfl:=sj hd
 exact⟨[(iv (i64.wrap ((ishl .i64 1 (IntKind.u64.wrap (ab.length:Int)))-1)))],f.g Z,f.d,_,[],gr,m,Z,Z⟩
end Go.Proofs.YteijfbpfjjjedaaGreatDoor

set_option maxRecDepth 100000
namespace Go.Proofs.YteijfbpfjjjedaaGreatDoor
open Go Go.Sx
open Go.Proofs.Tryz Go.Proofs.YteijfbpfjjjedaaGreatDoor.Tryz IntKind
variable {W w : World} {G : GH} {H : List Itm}
theorem Wk.F {x0:Int}(m:Mem W G w (H)){y:Int}(hd:D.F x0=some y):
  Calls prog 54 #[(iv x0)] w (Res W G H (λ_ Ho v=>Ho=[]∧v=(iv y))):=by
 refine Au (args:=[(iv x0)]) (N:=13) [.tmp 2] func54 Z Z (lb Z) Z λa f=> ?_
 unfold D.F at hd
 refine Ae ?_
 refine Ac f Z λa f=>AD ?_
 refine Ac f Z λa f=>Aa (Ag ?_)
 have⟨aa,ab,hd⟩:=bind_some hd
 refine AM (λa w=>∃ac:Int,ac=aa∧∃(ad:GH),GLe G ad∧Fr a 13 [(3,(iv ac))]∧Mem W ad w (H)) ?_ ?_
 ·refine Ak ?_
  refine AO (λae a w=>∃af:Int,∃ag:Int,(af,ag)=ae∧∃(ah:GH),GLe G ah∧Fr a 13 [(0,(iv af)),(3,(iv ag))]∧Mem W ah w (H)) ab ⟨_,_,Z,_,gr,f.k Z,m⟩ ?_
  clear ab f m
  rintro ae ai aj ak a w ⟨af,ag,rfl,ah,al,f,m⟩
  refine Ag (Ae ?_)
  refine Ab f Z λa f=>Ah f Z Z Cz λa f=>Aa ?_
  rcases Af aj with⟨am,aj⟩|⟨am,aj⟩
  ·refine Al f Z am ?_
   refine Am ?_
   refine Ag (Ak (Aj ?_))
   refine Ab f Z λa f=>Ah f Z Z AB λa f=>Ac f Z λa f=>Aa (Aj ?_)
   refine Ab f Z λa f=>Ab f Z λa f=>Ah f Z Z Ck λa f=>Ah f Z Z CC λa f=>Ac f Z λa f=>Aa ?_
   obtain rfl:=sj aj
   exact⟨_,Z,_,_,Z,_,al,f.k Z,m⟩
  ·refine Ai f Z am ?_
   refine AG Z ?_
   obtain rfl:=sj aj
   obtain rfl:=ak _ rfl
   exact⟨_,Z,_,al,f.k Z,m⟩
 ·rintro a w ⟨ac,rfl,ad,an,f,m⟩
  refine Ae ?_
  refine Ab f Z λa f=>Ac f Z λa f=>Aa ?_
  refine Ap ?_
  obtain rfl:=sj hd
  exact⟨[(iv ac)],f.g Z,f.d,_,[],an,m,Z,Z⟩
theorem Wk.Y {x0 x1:Int}(m:Mem W G w (H)){y:Bool}(hd:D.Y x0 x1=some y):
  Calls prog 55 #[(iv x0),(iv x1)] w (Res W G H (λ_ Ho v=>Ho=[]∧v=(.bool y))):=by
 refine Au (args:=[(iv x0),(iv x1)]) (N:=18) [.tmp 4] func55 Z Z (lb Z) Z λa f=> ?_
 unfold D.Y at hd
 refine Ae ?_
 refine Ac f Z λa f=>AD ?_
 refine Ab f Z λa f=>Ab f Z λa f=>Ah f Z Z b_xor λa f=>Ab f Z λa f=>Ab f Z λa f=>Ah f Z Z b_xor λa f=>l_o f (r_neg (f.e Z)) λa f=>Ah f Z Z CC λa f=>Ac f Z λa f=>AD ?_
 refine Ab f Z λa f=>Ab f Z λa f=>Ah f Z Z CC λa f=>Ah f Z Z Cm λa f=>Ac f Z λa f=>Aa ?_
 refine Ap ?_
 obtain rfl:=sj hd
 exact⟨[(.bool ((iand .i64 x0 (iand .i64 (ixor .i64 x0 x1) (i64.wrap (0-(ixor .i64 x0 x1))))) !=0))],f.g Z,f.d,_,[],gr,m,Z,Z⟩
theorem Wk.f0 {v0:Value}{x0:LI}{x1:Int}(m:Mem W G w (H))(h0:R1 G v0 x0){y:Int}(hd:D.f0 x0 x1=some y):
  Calls prog 56 #[v0,(iv x1)] w (Res W G H (λ_ Ho v=>Ho=[]∧v=(iv y))):=by
 refine Au (args:=[v0,(iv x1)]) (N:=27) [.tmp 4] func56 Z Z (lb Z) Z λa f=> ?_
 unfold D.f0 at hd
 refine Ae ?_
 refine Ac f Z λa f=>AD ?_
 refine Ab f Z λa f=>Ac f Z λa f=>Aa (Ag (Ae ?_))
 refine Ac f Z λa f=>Aa ?_
 have⟨aa,ab,hd⟩:=bind_some hd
 refine AM (λa w=>∃ac:Int,ac=aa∧∃(ad:GH),GLe G ad∧Fr a 27 [(5,(iv ac))]∧Mem W ad w (H)) ?_ ?_
 ·refine Ak ?_
  refine AO (λae a w=>∃af:Int,∃ag:Int,(af,ag)=ae∧∃(ah:GH),GLe G ah∧Fr a 27 [(0,v0),(1,(iv x1)),(5,(iv af)),(6,(iv ag))]∧Mem W ah w (H)) ab ⟨_,_,Z,_,gr,f.k Z,m⟩ ?_
  clear ab f m
  rintro ae ai aj ak a w ⟨af,ag,rfl,ah,al,f,m⟩
  have h0:=rd1 al h0
  refine Ag (Ae ?_)
  refine Ab f Z λa f=>Ab f Z λa f=>AL underlying35 f Z Z h0 λa f=>Ah f Z Z AR λa f=>Aa ?_
  rcases Af aj with⟨am,aj⟩|⟨am,aj⟩
  ·refine Al f Z am ?_
   refine Am ?_
   refine Ag (Ak (Ae ?_))
   refine Ab f Z λa f=>Ab f Z λa f=>l_o f (C2 (f.e Z) ⟨_,underlying3⟩ underlying100) λa f=> ?_
   obtain⟨an,aj⟩:=Ci aj
   refine l_o f (r_shr (f.e Z) (f.e Z) an) λa f=>Ah f Z Z CC λa f=>Ah f Z Z Bj λa f=>Aa ?_
   rcases Af aj with⟨ao,aj⟩|⟨ao,aj⟩
   ·refine Al f Z ao ?_
    refine Aj ?_
    refine Ab f Z λa f=>Ab f Z λa f=>Ab f Z λa f=> ?_
    have⟨ap,aq,aj⟩:=bind_some aj
    refine A4 T35 f Z Z Z h0 aq λar au a av aw f=> ?_
    subst aw
    refine Ax m Pl2 f Z Z av λa f=>Ah f Z Z Db λa f=>Ac f Z λa f=>Aa (Aj ?_)
    refine Ab f Z λa f=>Ah f Z Z AB λa f=>Ac f Z λa f=>Aa ?_
    obtain rfl:=sj aj
    exact⟨_,Z,_,_,Z,_,al,f.k Z,m⟩
   ·refine Ai f Z ao ?_
    refine Am ?_
    refine Aj ?_
    refine Ab f Z λa f=>Ah f Z Z AB λa f=>Ac f Z λa f=>Aa ?_
    obtain rfl:=sj aj
    exact⟨_,Z,_,_,Z,_,al,f.k Z,m⟩
  ·refine Ai f Z am ?_
   refine AG Z ?_
   obtain rfl:=sj aj
   obtain rfl:=ak _ rfl
   exact⟨_,Z,_,al,f.k Z,m⟩
 ·rintro a w ⟨ac,rfl,ad,ax,f,m⟩
  refine Ae ?_
  refine Ab f Z λa f=>Ac f Z λa f=>Aa ?_
  refine Ap ?_
  obtain rfl:=sj hd
  exact⟨[(iv ac)],f.g Z,f.d,_,[],ax,m,Z,Z⟩
theorem Wk.i0 {x0:Int}(m:Mem W G w (H)){y:(LI)}(hd:D.i0 x0=some y):
  Calls prog 57 #[(iv x0)] w (Res W G H (λG' Ho v=>∃r0:Value,∃i0:Itm,Ho=[i0]∧r0=v∧Ow R0 2 G' i0 r0 y)):=by
 refine Au (args:=[(iv x0)]) (N:=24) [.tmp 2] func57 Z Z (lb Z) Z λa f=> ?_
 unfold D.i0 at hd
 refine Ae ?_
 refine Ac f Z λa f=>AD ?_
 refine A7 (R:=R0) (xs:=([]:LI)) (RI.one _) m T35 f Z Z Z (by decide) (All2.nil _) λaa ab w a m ac f=>Ac f Z λa f=>Aa (Ag (Ae ?_))
 refine Ac f Z λa f=>Aa ?_
 have⟨ad,ae,hd⟩:=bind_some hd
 refine AM (λa w=>∃af:LI,af=ad∧∃(ag:GH) (ah:Value) (ai:Itm),GLe G ag∧Fr a 24 [(3,ah)]∧Mem W ag w (ai::H)∧Ow R0 2 ag ai ah af) ?_ ?_
 ·refine Ak ?_
  refine AO (λaj a w=>∃ak:LI,∃al:Int,(ak,al)=aj∧∃(am:GH) (an:Value) (ao:Itm),GLe G am∧Fr a 24 [(0,(iv x0)),(3,an),(4,(iv al))]∧Mem W am w (ao::H)∧Ow R0 2 am ao an ak) ae ⟨_,_,Z,_,ab,aa,gr,f.k Z,m,ac⟩ ?_
  clear ae f m
  rintro aj ap aq ar a w ⟨ak,al,rfl,am,an,ao,au,f,m,av⟩
  refine Ag (Ae ?_)
  refine Ab f Z λa f=>Ab f Z λa f=>l_o f (C2 (f.e Z) ⟨_,underlying2⟩ underlying100) λa f=> ?_
  obtain⟨aw,aq⟩:=Ci aq
  refine l_o f (r_shr (f.e Z) (f.e Z) aw) λa f=>Ah f Z Z Cz λa f=>Aa ?_
  rcases Af aq with⟨ax,aq⟩|⟨ax,aq⟩
  ·refine Al f Z ax ?_
   refine Am ?_
   refine Ag (Ak (Ae ?_))
   refine Ab f Z λa f=>Ab f Z λa f=>l_o f (C2 (f.e Z) ⟨_,underlying2⟩ underlying100) λa f=> ?_
   obtain⟨ay,aq⟩:=Ci aq
   refine l_o f (r_shr (f.e Z) (f.e Z) ay) λa f=>Ah f Z Z CC λa f=>Ah f Z Z Bj λa f=>Aa ?_
   rcases Af aq with⟨az,aq⟩|⟨az,aq⟩
   ·refine Al f Z az ?_
    refine Aj ?_
    refine Ab f Z λa f=>Ab f Z λa f=>A7 (R:=R0) (xs:=([al]:LI)) (RI.one _) m T35 f Z Z Z (by decide) (All2.cons Z (All2.nil _)) λaA aB w a m aC f=> ?_
    have⟨aD,aE,aq⟩:=bind_some aq
    refine Bh (RI.one _) 1 m av Z T35 Z (by decide) f Z Z Z (Ow.src (j:=0) aC m Z) aE λaF aG w a m aH f=>Ac f Z λa f=>Aa (Aj ?_)
    refine Ab f Z λa f=>Ah f Z Z AB λa f=>Ac f Z λa f=>Aa ?_
    have m:=m.fr 1
    have m:=m.eraseAt 1
    obtain rfl:=sj aq
    exact⟨_,Z,_,_,Z,_,aG,aF,au,f.k Z,m,aH⟩
   ·refine Ai f Z az ?_
    refine Am ?_
    refine Aj ?_
    refine Ab f Z λa f=>Ah f Z Z AB λa f=>Ac f Z λa f=>Aa ?_
    obtain rfl:=sj aq
    exact⟨_,Z,_,_,Z,_,an,ao,au,f.k Z,m,av⟩
  ·refine Ai f Z ax ?_
   refine AG Z ?_
   obtain rfl:=sj aq
   obtain rfl:=ar _ rfl
   exact⟨_,Z,_,an,ao,au,f.k Z,m,av⟩
 ·rintro a w ⟨af,rfl,ag,ah,ai,aI,f,m,aJ⟩
  refine Ae ?_
  refine Ab f Z λa f=>Ac f Z λa f=>Aa ?_
  refine Ap ?_
  obtain rfl:=sj hd
  exact⟨[ah],f.g Z,f.d,_,[ai],aI,m,_,_,Z,Z,aJ⟩
theorem Wk.A0 {aa:Value}{ab:LL}(m:Mem W G w (H))(ac:R2 G aa ab){y:(LI)}(hd:D.A0 ab=some y):
  Calls prog 14 #[(.agg #[aa])] w (Res W G H (λG' Ho v=>∃r0:Value,∃i0:Itm,Ho=[i0]∧r0=v∧Ow R0 2 G' i0 r0 y)):=by
 refine Au (args:=[(.agg #[aa])]) (N:=50) [.tmp 2] func14 Z Z (lb Z) Z λa f=> ?_
 unfold D.A0 at hd
 refine Ae ?_
 refine Bo (cs:=[aa]) m f Z Z Z λad w a m f=>Ac f Z λa f=>Aa (Ag (Ae ?_))
 refine AC 0 0 (ds:=[aa]) m Bv f Z Z Z Z Z λa f=> ?_
 have⟨ae,af,hd⟩:=bind_some hd
 refine Bd f Z call30 (Wk.t m ac af) λag w ah m a f=> ?_
 have ac:=rd2 ah ac
 refine l_o f (By (f.e Z)) λa f=>Aa ?_
 rcases Af hd with⟨ai,hd⟩|⟨ai,hd⟩
 ·refine Al f Z ai ?_
  refine Ae ?_
  refine A7 (R:=R0) (xs:=([]:LI)) (RI.one _) m T35 f Z Z Z (by decide) (All2.nil _) λaj ak w a m al f=>Ac f Z λa f=>Aa ?_
  refine Ap ?_
  have m:=m.eraseAt 1
  obtain rfl:=sj hd
  exact⟨[ak],f.g Z,f.d,_,[aj],ah,m,_,_,Z,Z,al⟩
 ·refine Ai f Z ai ?_
  refine Am ?_
  refine Ae ?_
  refine AC 0 0 (ds:=[aa]) m Bv f Z Z Z Z Z λa f=> ?_
  have⟨am,an,hd⟩:=bind_some hd
  refine AX f Z call52 (Wk.A m ac an) λao ap aq w ar m au a f=> ?_
  obtain⟨av,aw,rfl,rfl,ax⟩:=au
  have ac:=rd2 ar ac
  refine Ac f Z λa f=>AD ?_
  refine AC 1 0 (ds:=[aa]) m Bv f Z Z Z Z Z λa f=> ?_
  have⟨ay,az,hd⟩:=bind_some hd
  refine Bd f Z call53 (Wk.K m ac az) λaA w aB m a f=> ?_
  have ac:=rd2 aB ac
  have ax:=od1 aB ax
  refine Ac f Z λa f=>Aa (Ag (Ae ?_))
  refine Ac f Z λa f=>Aa ?_
  have⟨aC,aD,hd⟩:=bind_some hd
  refine AM (λa w=>∃aE:Int,aE=aC∧∃(aF:GH),GLe aA aF∧Fr a 50 [(4,(iv aE))]∧Mem W aF w (H)) ?_ ?_
  ·refine Ak ?_
   have m:=m.fr 1
   refine AO (λaG a w=>∃aH:Int,∃aI:Int,(aH,aI)=aG∧∃(aJ:GH),GLe aA aJ∧Fr a 50 [(1,(pb ad)),(3,av),(4,(iv aH)),(5,(iv aI))]∧Mem W aJ w (ib ad 29 [aa]::aw::H)) aD ⟨_,_,Z,_,gr,f.k Z,m⟩ ?_
   clear aD f m
   rintro aG aK aL aM a w ⟨aH,aI,rfl,aJ,aN,f,m⟩
   have ac:=rd2 aN ac
   have ax:=od1 aN ax
   refine Ag (Ae ?_)
   refine Ab f Z λa f=>AC 0 0 (ds:=[aa]) m Bv f Z Z Z Z Z λa f=> ?_
   have⟨aO,aP,aL⟩:=bind_some aL
   refine Bd f Z call53 (Wk.K m ac aP) λaQ w aR m a f=> ?_
   have ac:=rd2 aR ac
   have ax:=od1 aR ax
   refine Ah f Z Z b_leq λa f=>Aa ?_
   rcases Af aL with⟨aS,aL⟩|⟨aS,aL⟩
   ·refine Al f Z aS ?_
    refine Am ?_
    refine Ag (Ak (Ae ?_))
    refine Ab f Z λa f=> ?_
    have⟨aT,aU,aL⟩:=bind_some aL
    refine Bd f Z call54 (Wk.F m aU) λaV w aW m a f=> ?_
    have ac:=rd2 aW ac
    have ax:=od1 aW ax
    refine Ac f Z λa f=>AD ?_
    refine Ab f Z λa f=> ?_
    have⟨aX,aY,aL⟩:=bind_some aL
    refine Bd f Z call54 (Wk.F m aY) λaZ w a0 m a f=> ?_
    have ac:=rd2 a0 ac
    have ax:=od1 a0 ax
    refine Ac f Z λa f=>Aa (Ag ?_)
    refine Bf 21 AU (by kernel_rfl) m ?_
    refine An 0 21 Z f Z λa f=>An 1 21 Z f Z λa f=>q_p 2 21 Z f (λ_=>Bn (f.e Z) (f.e Z) AR) λa f=>An 3 21 Z f Z λa f=> ?_
    have⟨a1,a2,aL⟩:=bind_some aL
    refine Cw (fuel':=8) (listed':= #[true,true,true,true,true,true,true,true,true,true,true,true,true,false,false,false,false,false,false,false,false]) (λa=>Fr a 50 [(1,(pb ad)),(3,av),(4,(iv aH)),(5,(iv aI)),(6,(iv aT)),(7,(iv aX)),(26,(iv aT)),(27,(iv aX)),(28,(.bool (decide (aT<aX)))),(29,(.bool (decide (aT<aX)))),(38,(.bool a1))]) ?_ ?_
    ·intro a f
     refine An 13 21 Z f Z λa f=> ?_
     have⟨a3,a4,aL⟩:=bind_some aL
     refine Cw (fuel':=0) (listed':= #[true,true,true,true,true,true,true,true,true,true,true,true,true,true,true,true,true,true,true,true,true]) (λa=>Fr a 50 [(1,(pb ad)),(3,av),(4,(iv aH)),(5,(iv aI)),(6,(iv aT)),(7,(iv aX)),(26,(iv aT)),(27,(iv aX)),(28,(.bool (decide (aT<aX)))),(29,(.bool (decide (aT<aX)))),(38,(.bool a1)),(39,(.bool a1)),(46,(.bool a3))]) ?_ ?_
     ·intro a f
      refine A2 λa5 w a6 m=>Aa ?_
      rcases Af aL with⟨a7,aL⟩|⟨a7,aL⟩
      ·refine Al f Z a7 ?_
       refine Aj ?_
       refine Ab f Z λa f=>Ac f Z λa f=>Aa (Aj ?_)
       refine Ab f Z λa f=>Ah f Z Z AB λa f=>Ac f Z λa f=>Aa ?_
       obtain rfl:=sj aL
       exact⟨_,Z,_,_,Z,_,(gt aN (gt aR (gt aW (gt a0 a6)))),f.k Z,m⟩
      ·refine Ai f Z a7 ?_
       refine Am ?_
       refine Aj ?_
       refine Ab f Z λa f=>Ah f Z Z AB λa f=>Ac f Z λa f=>Aa ?_
       obtain rfl:=sj aL
       exact⟨_,Z,_,_,Z,_,(gt aN (gt aR (gt aW (gt a0 a6)))),f.k Z,m⟩
     ·intro a8
      rcases Af a4 with⟨a9,a4⟩|⟨a9,a4⟩
      ·refine An (hw:=wo f a9) 14 21 Z f Z λa f=> ?_
       refine An (hw:=wo f a9) 15 21 Z f Z λa f=> ?_
       have⟨ba,bb,a4⟩:=bind_some a4
       refine BJ (i:=16) 21 Z (by kernel_rfl) Z f (BH f Z Z Z a9) Z Z call56 (λ_ _ w bc m=>(Ow.lendCallR (RI.mono _) 1 (od1 bc ax) m Z (λbd be m bf=>Wk.f0 m bf bb) (λ_ _ _ _ h=>h))) λa f=>BE (i:=17) (ds:=[aa]) 21 0 Bv Z Z Z Z (by kernel_rfl) Z f (BH f Z Z Z a9) Z Z λa f=> ?_
       have⟨bg,bh,a4⟩:=bind_some a4
       refine BJ (i:=18) 21 Z (by kernel_rfl) Z f (BH f Z Z Z a9) Z Z call53 (λ_ _ w bi m=>Wk.K m (rd2 bi ac) bh) λa f=>q_p (hw:=wo f a9) 19 21 Z f (λ_=>Bn (f.e Z) (f.e Z) Bj) λa f=>q_p 20 21 Z f (λ_=>AI (f.e Z) a9 (f.e Z)) λa f=> ?_
       obtain rfl:=sj a4
       exact a8 _ (f.k Z)
      ·refine Aw 14 21 Z f a9 λa f=> ?_
       refine Aw 15 21 Z f a9 λa f=>Aw 16 21 Z f a9 λa f=>Aw 17 21 Z f a9 λa f=>Aw 18 21 Z f a9 λa f=>Aw 19 21 Z f a9 λa f=>q_p 20 21 Z f (λ_=>AJ (f.e Z) a9 (f.e Z)) λa f=> ?_
       obtain rfl:=sj a4
       exact a8 _ (f.k Z)
    ·intro bj
     rcases Af a2 with⟨bk,a2⟩|⟨bk,a2⟩
     ·refine Aw 4 21 Z f bk λa f=> ?_
      refine Aw 5 21 Z f bk λa f=>Aw 6 21 Z f bk λa f=>Aw 7 21 Z f bk λa f=>D9 8 21 Z f λa f=>D9 9 21 Z f λa f=>D9 10 21 Z f λa f=>Aw 11 21 Z f bk λa f=>q_p 12 21 Z f (λ_=>AI (f.e Z) bk (f.e Z)) λa f=> ?_
      obtain rfl:=sj a2
      exact bj _ (f.k Z)
     ·refine An (hw:=wo f bk) 4 21 Z f Z λa f=> ?_
      refine An (hw:=wo f bk) 5 21 Z f Z λa f=>q_p (hw:=wo f bk) 6 21 Z f (λ_=>Bn (f.e Z) (f.e Z) Bj) λa f=>An (hw:=wo f bk) 7 21 Z f Z λa f=> ?_
      have⟨bl,bm,a2⟩:=bind_some a2
      refine Cw (fuel':=9) (listed':= #[true,true,true,true,true,true,true,true,true,true,true,true,false,false,false,false,false,false,false,false,false]) (λa=>Fr a 50 [(1,(pb ad)),(3,av),(4,(iv aH)),(5,(iv aI)),(6,(iv aT)),(7,(iv aX)),(26,(iv aT)),(27,(iv aX)),(28,(.bool (decide (aT<aX)))),(29,(.bool (decide (aT<aX)))),(30,(iv aT)),(31,(iv aX)),(32,(.bool (aT==aX))),(33,(.bool (aT==aX))),(37,(.bool bl))]) ?_ ?_
      ·intro a f
       refine q_p 12 21 Z f (λ_=>AJ (f.e Z) bk (f.e Z)) λa f=> ?_
       obtain rfl:=sj a2
       exact bj _ (f.k Z)
      ·intro bn
       rcases Af bm with⟨bo,bm⟩|⟨bo,bm⟩
       ·refine An (hw:=wo f bo) 8 21 Z f Z λa f=> ?_
        refine An (hw:=wo f bo) 9 21 Z f Z λa f=> ?_
        have⟨bp,bq,bm⟩:=bind_some bm
        refine BJ (i:=10) 21 Z (by kernel_rfl) Z f (BH f Z Z Z bo) Z Z call55 (λ_ _ w br m=>Wk.Y m bq) λa f=>q_p (hw:=wo f bk) 11 21 Z f (λ_=>AI (f.e Z) bo (f.e Z)) λa f=> ?_
        obtain rfl:=sj bm
        exact bn _ (f.k Z)
       ·refine Aw 8 21 Z f bo λa f=> ?_
        refine Aw 9 21 Z f bo λa f=>Aw 10 21 Z f bo λa f=>q_p (hw:=wo f bk) 11 21 Z f (λ_=>AJ (f.e Z) bo (f.e Z)) λa f=> ?_
        obtain rfl:=sj bm
        exact bn _ (f.k Z)
   ·refine Ai f Z aS ?_
    refine AG Z ?_
    have m:Mem W aQ w H:=Mem.drop (H':=[ib ad 29 [aa],aw]) m
    obtain rfl:=sj aL
    obtain rfl:=aM _ rfl
    exact⟨_,Z,_,(gt aN aR),f.k Z,m⟩
  ·rintro a w ⟨aE,rfl,aF,bs,f,m⟩
   refine Ae ?_
   refine Ab f Z λa f=> ?_
   have⟨bt,bu,hd⟩:=bind_some hd
   refine AX f Z call57 (Wk.i0 m bu) λbv bw bx w bz m bA a f=> ?_
   obtain⟨bB,bC,rfl,rfl,bD⟩:=bA
   refine Ac f Z λa f=>Aa ?_
   refine Ap ?_
   obtain rfl:=sj hd
   exact⟨[bB],f.g Z,f.d,_,[bC],(gt ah (gt ar (gt aB (gt bs bz)))),m,_,_,Z,Z,bD⟩
set_option maxHeartbeats 1000000 in
theorem Wk.V0 {v0:Value}{x0:LI}(hW:Dc W)(m:Mem W G w (H))(h0:RSl (RI .u8) G v0 x0){y:Bool}(hd:D.V0 x0=some y):
  Calls prog 3 #[v0] w (Res W G H (λ_ Ho v=>Ho=[]∧v=(.bool y))):=by
 refine Au (args:=[v0]) (N:=54) [.tmp 2] func3 Z Z (lb Z) Z λa f=> ?_
 unfold D.V0 at hd
 refine Ae ?_
 refine Ac f Z λa f=>Aa (Ag (Ae ?_))
 refine Ab f Z λa f=> ?_
 have⟨aa,ab,hd⟩:=bind_some hd
 refine Bd f Z call4 (Wk.c1 m h0 ab) λac w ad m a f=> ?_
 have h0:=rd1 ad h0
 refine Aa ?_
 rcases Af hd with⟨ae,hd⟩|⟨ae,hd⟩
 ·refine Al f Z ae ?_
  refine Ae ?_
  refine Ac f Z λa f=>Aa ?_
  refine Ap ?_
  obtain rfl:=sj hd
  exact⟨[(.bool true)],f.g Z,f.d,_,[],ad,m,Z,Z⟩
 ·refine Ai f Z ae ?_
  refine Am ?_
  refine Ae ?_
  refine Ab f Z λa f=> ?_
  have⟨af,ag,hd⟩:=bind_some hd
  refine AX f Z call5 (Wk.S0 m h0 ag) λah ai aj w ak m al a f=> ?_
  obtain⟨am,an,rfl,rfl,ao⟩:=al
  refine Ac f Z λa f=>AD ?_
  refine Ab f Z λa f=> ?_
  have⟨ap,aq,hd⟩:=bind_some hd
  refine AX f Z call6 (Wk.e0 m ao aq) λar au av w aw m ax a f=> ?_
  obtain⟨ay,az,aA,rfl,rfl,aB,aC⟩:=ax
  refine Bp (cs:=[sn]) zeroValue29 m f Z Z λaD w a m f=>AA 0 0 (ds:=[ay]) m sizeOf29 f Z Z Z (Ao (Ow.one1 1 m aB Z) AK) Z (lb Z) Z λw m=>Aa (Ag ?_)
  have⟨aE,aF,hd⟩:=bind_some hd
  refine AM (λa w=>∃aG:LL,∃aH:LL,∃aI:LL,(aG,aH,aI)=aE∧∃(aJ:GH) (aK:Nat) (aL:Value) (aM:Itm) (aN:Value) (aO:Itm) (aP:Value),GLe au aJ∧Fr a 54 [(4,(pb aD)),(5,(pb aK))]∧Mem W aJ w (ib aD 29 [aP]::ib aK 32 [aL,aN]::aM::aO::H)∧Ow R1 35 aJ aM aL aG∧Ow R1 35 aJ aO aN aH∧R2 aJ aP aI) ?_ ?_
  ·have m:Mem W au w (az::ib aD 29 [ay]::ib an 46 [aA,(iv ap.2.2.1),(.int .u64 ap.2.2.2)]::H):=m.fr 1
   obtain⟨aQ,aR,m,aS⟩:=Ow.stamp (RSl.mono (RI.mono _)) aB m
   have aC:=rd1 aR aC
   have m:Mem W aQ w (ib an 46 [aA,(iv ap.2.2.1),(.int .u64 ap.2.2.2)]::ib aD 29 [ay]::H):=m.fr 1
   refine E8 [ib an 46 [aA,(iv ap.2.2.1),(.int .u64 ap.2.2.2)]] (ib aD 29 [ay]::H) 10 AU (by kernel_rfl) m ?_
   refine BE (i:=0) (ds:=[ay]) 10 0 Bv Z Z Z Z (by kernel_rfl) Z f Z Z Z λa f=>An 1 10 Z f Z λa f=>BE (i:=2) (ds:=[ay]) 10 0 Bv Z Z Z Z (by kernel_rfl) Z f Z Z Z λa f=>EJ (i:=3) (j:=8) (l1:= #[true,true,true,true,false,false,false,false,false,false,false]) (l2:= #[true,true,true,false,false,false,false,false,true,false,false]) Z Z (by kernel_rfl) Z Z ?_ ?_
   ·intro aT w aU m aV aV
    have aS:=rd2 aU aS
    have aC:=rd1 aU aC
    have⟨aW,aX,aF⟩:=bind_some aF
    refine AX f Z call8 (Wk.l0 m aC aS aX) λaY aZ a0 w a1 m a2 a f=> ?_
    obtain⟨a3,a4,a5,rfl,rfl,a6,a7⟩:=a2
    have aS:=rd2 a1 aS
    refine Aa ?_
    refine aV aZ [a4,ib an 46 [a5,(iv aW.2.2.1),(.int .u64 aW.2.2.2)]] _ _ a1 m ?_
    refine EJ (i:=4) (j:=8) (l1:= #[true,true,true,true,true,false,false,false,false,false,false]) (l2:= #[true,true,true,true,false,false,false,false,true,false,false]) Z Z (by kernel_rfl) Z Z ?_ ?_
    ·intro a8 w a9 m ba ba
     have aS:=rd2 a9 aS
     have a6:=od1 a9 a6
     obtain⟨bb,bc,m,bd⟩:=Ow.stamp (RI.mono _) a6 m
     have aS:=rd2 bc aS
     have⟨be,bf,aF⟩:=bind_some aF
     refine AX f Z call7 (Wk.R m aS bd bf) λbg bh bi w bj m bk a f=> ?_
     obtain⟨bl,bm,bn,bo,rfl,rfl,bp,bq⟩:=bk
     have aS:=rd2 bj aS
     refine Aa ?_
     refine ba bh [bm,bo,ib an 46 [a5,(iv aW.2.2.1),(.int .u64 aW.2.2.2)]] _ _ (gt bc bj) m ?_
     refine An 5 10 Z f Z λa f=>q_p 6 10 Z f (λ_=>AF (f.e Z) Z) λa f=>q_p 7 10 Z f (λ_=>AF (f.e Z) Z) λa f=>BC 8 Z λbr w bs m bt bt=> ?_
     have aS:=rd2 bs aS
     have bp:=Ow.mono (RSl.mono (RI.mono _)) bs bp
     have bq:=Ow.mono (RSl.mono (RI.mono _)) bs bq
     refine Bp (cs:=[sn,sn]) zeroValue32 m f Z Z λbu w a m f=>Aa ?_
     refine bt br [ib bu 32 [sn,sn],bm,bo,ib an 46 [a5,(iv aW.2.2.1),(.int .u64 aW.2.2.2)]] _ _ gr m ?_
     refine BC 9 Z λbv w bw m bx bx=> ?_
     have aS:=rd2 bw aS
     have bp:=Ow.mono (RSl.mono (RI.mono _)) bw bp
     have bq:=Ow.mono (RSl.mono (RI.mono _)) bw bq
     refine AA 0 0 (ds:=[bl,bn]) m sizeOf32 f Z Z Z (Ao (Ow.one1 1 m bp Z) (Ao (Ow.one1 2 m bq Z) AK)) Z (lb Z) Z λw m=>Aa ?_
     refine bx bv [ib bu 32 [bl,bn],bm,bo,ib an 46 [a5,(iv aW.2.2.1),(.int .u64 aW.2.2.2)]] _ _ gr m ?_
     refine A2 λbz w bA m=> ?_
     have aS:=rd2 bA aS
     have bp:=Ow.mono (RSl.mono (RI.mono _)) bA bp
     have bq:=Ow.mono (RSl.mono (RI.mono _)) bA bq
     refine Ac f Z λa f=>Aa ?_
     have m:=m.fr 4
     have m:Mem W bz w (ib aD 29 [ay]::ib bu 32 [bl,bn]::bm::bo::H):=m.eraseAt 4
     obtain rfl:=sj aF
     exact⟨_,_,_,Z,_,bu,bl,bm,bn,bo,ay,(gt aR (gt aU (gt a1 (gt a9 (gt bc (gt bj (gt bs (gt bw bA)))))))),f.k Z,m,bp,bq,aS⟩
    ·intro br w bs m bt bt
     have⟨be,bf,aF⟩:=bind_some aF
     have aS:=rd2 bs aS
     have a6:=od1 bs a6
     refine Bp (cs:=[sn,sn]) zeroValue32 m f Z Z λbu w a m f=>Aa ?_
     refine bt br [ib bu 32 [sn,sn],a4,ib an 46 [a5,(iv aW.2.2.1),(.int .u64 aW.2.2.2)]] _ _ gr m ?_
     refine BC 4 Z λa8 w a9 m ba ba=> ?_
     have aS:=rd2 a9 aS
     have a6:=od1 a9 a6
     have m:Mem W a8 w (a4::ib bu 32 [sn,sn]::ib an 46 [a5,(iv aW.2.2.1),(.int .u64 aW.2.2.2)]::ib aD 29 [ay]::H):=m.fr 1
     obtain⟨bb,bc,m,bd⟩:=Ow.stamp (RI.mono _) a6 m
     have aS:=rd2 bc aS
     refine AX f Z call7 (Wk.R m aS bd bf) λbg bh bi w bj m bk a f=> ?_
     obtain⟨bl,bm,bn,bo,rfl,rfl,bp,bq⟩:=bk
     have aS:=rd2 bj aS
     refine Aa ?_
     refine ba bh [bm,bo,ib bu 32 [sn,sn],ib an 46 [a5,(iv aW.2.2.1),(.int .u64 aW.2.2.2)]] _ _ (gt bc bj) m ?_
     refine An 5 10 Z f Z λa f=>q_p 6 10 Z f (λ_=>AF (f.e Z) Z) λa f=>q_p 7 10 Z f (λ_=>AF (f.e Z) Z) λa f=>BC 9 Z λbv w bw m bx bx=> ?_
     have aS:=rd2 bw aS
     have bp:=Ow.mono (RSl.mono (RI.mono _)) bw bp
     have bq:=Ow.mono (RSl.mono (RI.mono _)) bw bq
     refine AA 2 0 (ds:=[bl,bn]) m sizeOf32 f Z Z Z (Ao (Ow.one1 0 m bp Z) (Ao (Ow.one1 1 m bq Z) AK)) Z (lb Z) Z λw m=>Aa ?_
     refine bx bv [bm,bo,ib bu 32 [bl,bn],ib an 46 [a5,(iv aW.2.2.1),(.int .u64 aW.2.2.2)]] _ _ gr m ?_
     refine A2 λbz w bA m=> ?_
     have aS:=rd2 bA aS
     have bp:=Ow.mono (RSl.mono (RI.mono _)) bA bp
     have bq:=Ow.mono (RSl.mono (RI.mono _)) bA bq
     refine Ac f Z λa f=>Aa ?_
     have m:=m.fr 2
     have m:=m.fr 4
     have m:Mem W bz w (ib aD 29 [ay]::ib bu 32 [bl,bn]::bm::bo::H):=m.eraseAt 4
     obtain rfl:=sj aF
     exact⟨_,_,_,Z,_,bu,bl,bm,bn,bo,ay,(gt aR (gt aU (gt a1 (gt bs (gt a9 (gt bc (gt bj (gt bw bA)))))))),f.k Z,m,bp,bq,aS⟩
   ·intro br w bs m bt bt
    have⟨aW,aX,aF⟩:=bind_some aF
    have⟨be,bf,aF⟩:=bind_some aF
    have aS:=rd2 bs aS
    have aC:=rd1 bs aC
    refine Bp (cs:=[sn,sn]) zeroValue32 m f Z Z λbu w a m f=>Aa ?_
    refine bt br [ib bu 32 [sn,sn],ib an 46 [aA,(iv ap.2.2.1),(.int .u64 ap.2.2.2)]] _ _ gr m ?_
    refine BC 3 Z λaT w aU m aV aV=> ?_
    have aS:=rd2 aU aS
    have aC:=rd1 aU aC
    have m:Mem W aT w (ib an 46 [aA,(iv ap.2.2.1),(.int .u64 ap.2.2.2)]::ib bu 32 [sn,sn]::ib aD 29 [ay]::H):=m.fr 1
    refine AX f Z call8 (Wk.l0 m aC aS aX) λaY aZ a0 w a1 m a2 a f=> ?_
    obtain⟨a3,a4,a5,rfl,rfl,a6,a7⟩:=a2
    have aS:=rd2 a1 aS
    refine Aa ?_
    refine aV aZ [a4,ib an 46 [a5,(iv aW.2.2.1),(.int .u64 aW.2.2.2)],ib bu 32 [sn,sn]] _ _ a1 m ?_
    refine BC 4 Z λa8 w a9 m ba ba=> ?_
    have aS:=rd2 a9 aS
    have a6:=od1 a9 a6
    obtain⟨bb,bc,m,bd⟩:=Ow.stamp (RI.mono _) a6 m
    have aS:=rd2 bc aS
    refine AX f Z call7 (Wk.R m aS bd bf) λbg bh bi w bj m bk a f=> ?_
    obtain⟨bl,bm,bn,bo,rfl,rfl,bp,bq⟩:=bk
    have aS:=rd2 bj aS
    refine Aa ?_
    refine ba bh [bm,bo,ib an 46 [a5,(iv aW.2.2.1),(.int .u64 aW.2.2.2)],ib bu 32 [sn,sn]] _ _ (gt bc bj) m ?_
    refine An 5 10 Z f Z λa f=>q_p 6 10 Z f (λ_=>AF (f.e Z) Z) λa f=>q_p 7 10 Z f (λ_=>AF (f.e Z) Z) λa f=>BC 9 Z λbv w bw m bx bx=> ?_
    have aS:=rd2 bw aS
    have bp:=Ow.mono (RSl.mono (RI.mono _)) bw bp
    have bq:=Ow.mono (RSl.mono (RI.mono _)) bw bq
    refine AA 3 0 (ds:=[bl,bn]) m sizeOf32 f Z Z Z (Ao (Ow.one1 0 m bp Z) (Ao (Ow.one1 1 m bq Z) AK)) Z (lb Z) Z λw m=>Aa ?_
    refine bx bv [bm,bo,ib an 46 [a5,(iv aW.2.2.1),(.int .u64 aW.2.2.2)],ib bu 32 [bl,bn]] _ _ gr m ?_
    refine A2 λbz w bA m=> ?_
    have aS:=rd2 bA aS
    have bp:=Ow.mono (RSl.mono (RI.mono _)) bA bp
    have bq:=Ow.mono (RSl.mono (RI.mono _)) bA bq
    refine Ac f Z λa f=>Aa ?_
    have m:=m.fr 3
    have m:=m.fr 4
    have m:Mem W bz w (ib aD 29 [ay]::ib bu 32 [bl,bn]::bm::bo::H):=m.eraseAt 4
    obtain rfl:=sj aF
    exact⟨_,_,_,Z,_,bu,bl,bm,bn,bo,ay,(gt aR (gt bs (gt aU (gt a1 (gt a9 (gt bc (gt bj (gt bw bA)))))))),f.k Z,m,bp,bq,aS⟩
  ·rintro a w ⟨aG,aH,aI,rfl,aJ,aK,aL,aM,aN,aO,aP,bB,f,m,bC,bD,bE⟩
   refine Ae ?_
   refine AC 0 0 (ds:=[aP]) m Bv f Z Z Z Z Z λa f=>AC 1 0 (ds:=[aL,aN]) m Ag32 f Z Z Z Z Z λa f=> ?_
   have m:Mem W aJ w (aM::ib aD 29 [aP]::ib aK 32 [aL,aN]::aO::H):=m.fr 2
   obtain⟨bF,bG,m,bH⟩:=Ow.stamp (RSl.mono (RI.mono _)) bC m
   have bE:=rd2 bG bE
   have bD:=Ow.mono (RSl.mono (RI.mono _)) bG bD
   have m:=m.fr 2
   obtain⟨bI,bJ,m,bK⟩:=Ow.stamp (RSl.mono (RI.mono _)) bD m
   have bE:=rd2 bJ bE
   have bH:=rd2 bJ bH
   have⟨bL,bM,hd⟩:=bind_some hd
   refine AX f Z call9 (Wk.s hW m bE bH bK bM) λbN bO bP w bQ m bR a f=> ?_
   obtain⟨bS,bT,bU,bV,bW,bX,bY,bZ,rfl,rfl,b0,b1,b2,b3⟩:=bR
   have bE:=rd2 bQ bE
   refine Ab f Z λa f=>l_o f (AF (f.e Z) Z) λa f=>l_o f (AF (f.e Z) Z) λa f=>Bp (cs:=[sn,sn,sn,sn]) zeroValue38 m f Z Z λb4 w a m f=>AA 0 0 (ds:=[bS,bU,bW,bY]) m sizeOf38 f Z Z Z (Ao (Ow.one1 1 m b0 Z) (Ao (Ow.one1 2 m b1 Z) (Ao (Ow.one1 3 m b2 Z) (Ao (Ow.one1 4 m b3 Z) AK)))) Z (lb Z) Z λw m=>Ac f Z λa f=>Aa (Ag (Ae ?_))
   refine Ab f Z λa f=>l_o f (By (f.e Z)) λa f=>Ab f Z λa f=> ?_
   have⟨b5,b6,hd⟩:=bind_some hd
   refine Bx 5 (λa w=>∃b7,GLe bO b7∧Mem W b7 w (ib b4 38 [bS,bU,bW,bY]::bT::bV::bX::bZ::ib aD 29 [aP]::ib aK 32 [aL,aN]::H)∧Fr a 54 [(4,(pb aD)),(5,(pb aK)),(7,(pb b4)),(8,(.bool bL.2.2.2.2)),(30,(.bool bL.2.2.2.2)),(31,(.bool (!bL.2.2.2.2))),(32,(.bool (!bL.2.2.2.2))),(37,(.bool b5))]) ?_ ?_
   ·rcases Af b6 with⟨b8,b6⟩|⟨b8,b6⟩
    ·refine Ar f b8 λa f=> ?_
     refine Ar f b8 λa f=>Ar f b8 λa f=>Ar f b8 λa f=>l_o f (AI (f.e Z) b8 (f.e Z)) λa f=> ?_
     obtain rfl:=sj b6
     exact⟨_,gr,m,f.k Z⟩
    ·refine Aq f b8 ?_
     refine AC 5 0 (ds:=[aP]) m Bv f Z Z Z Z Z λa f=>Aq f b8 ?_
     refine AC 0 0 (ds:=[bS,bU,bW,bY]) m DJ f Z Z Z Z Z λa f=>Aq f b8 ?_
     have⟨b9,ca,b6⟩:=bind_some b6
     refine AX f Z call10 (Ow.lendCall (RI.mono _) 1 b0 m Z (λcb cc m cd=>(Ow.lendCall (RI.mono _) 1 (od1 cc b1) m Z (λce cf m cg=>(Ow.lendCall (RSl.mono (RI.mono _)) 1 (Ow.mono (RSl.mono (RI.mono _)) cf (Ow.mono (RSl.mono (RI.mono _)) cc b2)) m Z (λch ci m cj=>(Ow.lendCall (RSl.mono (RI.mono _)) 1 (Ow.mono (RSl.mono (RI.mono _)) ci (Ow.mono (RSl.mono (RI.mono _)) cf (Ow.mono (RSl.mono (RI.mono _)) cc b3))) m Z (λck cl m cm=>Wk.k0 m (rd2 cl (rd2 ci (rd2 cf (rd2 cc bE)))) (rd1 cl (rd1 ci (rd1 cf cd))) (rd1 cl (rd1 ci cg)) (rd2 cl cj) cm ca) (λ_ _ _ _ h=>h))) (λ_ _ _ _ h=>h))) (λ_ _ _ _ h=>h))) (λ_ _ _ _ h=>h)) λcn co cp w cq m cr a f=> ?_
     obtain⟨rfl,rfl⟩:=cr
     refine Aq f b8 ?_
     refine l_o f (By (f.e Z)) λa f=>l_o f (AJ (f.e Z) b8 (f.e Z)) λa f=> ?_
     obtain rfl:=sj b6
     exact⟨_,cq,m,f.k Z⟩
   ·rintro a w ⟨b7,ct,m,f⟩
    have b0:=od1 ct b0
    have b1:=od1 ct b1
    have b2:=Ow.mono (RSl.mono (RI.mono _)) ct b2
    have b3:=Ow.mono (RSl.mono (RI.mono _)) ct b3
    have bE:=rd2 ct bE
    refine Aa ?_
    rcases Af hd with⟨cu,hd⟩|⟨cu,hd⟩
    ·refine Al f Z cu ?_
     refine Ae ?_
     refine Ac f Z λa f=>Aa ?_
     refine Ap ?_
     have m:Mem W b7 w H:=Mem.drop (H':=[ib b4 38 [bS,bU,bW,bY],bT,bV,bX,bZ,ib aD 29 [aP],ib aK 32 [aL,aN]]) m
     obtain rfl:=sj hd
     exact⟨[(.bool false)],f.g Z,f.d,_,[],(gt ad (gt ak (gt aw (gt bB (gt bG (gt bJ (gt bQ ct))))))),m,Z,Z⟩
    ·refine Ai f Z cu ?_
     refine Am ?_
     refine Ae ?_
     refine AC 5 0 (ds:=[aP]) m Bv f Z Z Z Z Z λa f=>AC 0 0 (ds:=[bS,bU,bW,bY]) m DJ f Z Z Z Z Z λa f=> ?_
     have⟨cv,cw,hd⟩:=bind_some hd
     refine AX f Z call11 (Ow.lendCall (RI.mono _) 1 b0 m Z (λcx cy m cz=>(Ow.lendCall (RI.mono _) 1 (od1 cy b1) m Z (λcA cB m cC=>(Ow.lendCall (RSl.mono (RI.mono _)) 1 (Ow.mono (RSl.mono (RI.mono _)) cB (Ow.mono (RSl.mono (RI.mono _)) cy b2)) m Z (λcD cE m cF=>(Ow.lendCall (RSl.mono (RI.mono _)) 1 (Ow.mono (RSl.mono (RI.mono _)) cE (Ow.mono (RSl.mono (RI.mono _)) cB (Ow.mono (RSl.mono (RI.mono _)) cy b3))) m Z (λcG cH m cI=>Wk.b m (rd2 cH (rd2 cE (rd2 cB (rd2 cy bE)))) (rd1 cH (rd1 cE (rd1 cB cz))) (rd1 cH (rd1 cE cC)) (rd2 cH cF) cI cw) (λ_ _ _ _ h=>h))) (λ_ _ _ _ h=>h))) (λ_ _ _ _ h=>h))) (λ_ _ _ _ h=>h)) λcJ cK cL w cM m cN a f=> ?_
     obtain⟨rfl,rfl⟩:=cN
     have bE:=rd2 cM bE
     have b0:=od1 cM b0
     have b1:=od1 cM b1
     have b2:=Ow.mono (RSl.mono (RI.mono _)) cM b2
     have b3:=Ow.mono (RSl.mono (RI.mono _)) cM b3
     refine Ac f Z λa f=>Aa (Ag ?_)
     refine Bf 14 AU (by kernel_rfl) m ?_
     refine BE (i:=0) (ds:=[aP]) 14 5 Bv Z Z Z Z (by kernel_rfl) Z f Z Z Z λa f=>BE (i:=1) (ds:=[bS,bU,bW,bY]) 14 0 DJ Z Z Z Z (by kernel_rfl) Z f Z Z Z λa f=> ?_
     have⟨cO,cP,hd⟩:=bind_some hd
     refine BJ (i:=2) 14 Z (by kernel_rfl) Z f Z Z Z call12 (λ_ _ w cQ m=>(Ow.lendCallR (RI.mono _) 1 (od1 cQ b0) m Z (λcR cS m cT=>(Ow.lendCallR (RI.mono _) 1 (od1 cS (od1 cQ b1)) m Z (λcU cV m cW=>(Ow.lendCallR (RSl.mono (RI.mono _)) 1 (Ow.mono (RSl.mono (RI.mono _)) cV (Ow.mono (RSl.mono (RI.mono _)) cS (Ow.mono (RSl.mono (RI.mono _)) cQ b2))) m Z (λcX cY m cZ=>(Ow.lendCallR (RSl.mono (RI.mono _)) 1 (Ow.mono (RSl.mono (RI.mono _)) cY (Ow.mono (RSl.mono (RI.mono _)) cV (Ow.mono (RSl.mono (RI.mono _)) cS (Ow.mono (RSl.mono (RI.mono _)) cQ b3)))) m Z (λc0 c1 m c2=>Wk.d hW m (rd2 c1 (rd2 cY (rd2 cV (rd2 cS (rd2 cQ bE))))) (rd1 c1 (rd1 cY (rd1 cV cT))) (rd1 c1 (rd1 cY cW)) (rd2 c1 cZ) c2 cP) (λ_ _ _ _ h=>h))) (λ_ _ _ _ h=>h))) (λ_ _ _ _ h=>h))) (λ_ _ _ _ h=>h))) λa f=>BE (i:=3) (ds:=[aP]) 14 5 Bv Z Z Z Z (by kernel_rfl) Z f Z Z Z λa f=> ?_
     have⟨c3,c4,hd⟩:=bind_some hd
     refine BJ (i:=4) 14 Z (by kernel_rfl) Z f Z Z Z call13 (λ_ _ w c5 m=>Wk.u0 m (rd2 c5 bE) c4) λa f=>q_p 5 14 Z f (λ_=>Bn (f.e Z) (f.e Z) Bj) λa f=>An 6 14 Z f Z λa f=> ?_
     rcases Af hd with⟨c6,hd⟩|⟨c6,hd⟩
     ·refine An (hw:=wo f c6) 7 14 Z f Z λa f=> ?_
      refine BE (i:=8) (ds:=[aP]) 14 5 Bv Z Z Z Z (by kernel_rfl) Z f (BH f Z Z Z c6) Z Z λa f=>BC 9 Z λc7 w c8 m c9 c9=> ?_
      have bE:=rd2 c8 bE
      refine Aq f c6 ?_
      have⟨da,db,hd⟩:=bind_some hd
      refine AX f Z call14 (Wk.A0 m bE db) λdc dd de w df m dg a f=> ?_
      obtain⟨dh,di,rfl,rfl,dj⟩:=dg
      refine Aa ?_
      refine c9 dd [di] _ _ df m ?_
      refine q_own_len (i:=10) 14 0 m dj Z underlying35 Z (by kernel_rfl) Z f (BH f Z Z Z c6) Z Z λa f=>q_p (hw:=wo f c6) 11 14 Z f (λ_=>Bn (f.e Z) (f.e Z) Bj) λa f=>q_p 12 14 Z f (λ_=>AI (f.e Z) c6 (f.e Z)) λa f=>q_p 13 14 Z f (λ_=>Bs (f.e Z)) λa f=>A2 λdk w dl m=>Aa ?_
      refine Ap ?_
      have m:Mem W dk w H:=Mem.drop (H':=[di,ib b4 38 [bS,bU,bW,bY],bT,bV,bX,bZ,ib aD 29 [aP],ib aK 32 [aL,aN]]) m
      obtain rfl:=sj hd
      exact⟨[(.bool (cv==(da.length:Int)))],f.g Z,f.d,_,[],(gt ad (gt ak (gt aw (gt bB (gt bG (gt bJ (gt bQ (gt ct (gt cM (gt c8 (gt df dl))))))))))),m,Z,Z⟩
     ·refine Aw 7 14 Z f c6 λa f=> ?_
      refine Aw 8 14 Z f c6 λa f=>Aw 9 14 Z f c6 λa f=>Aw 10 14 Z f c6 λa f=>Aw 11 14 Z f c6 λa f=>q_p 12 14 Z f (λ_=>AJ (f.e Z) c6 (f.e Z)) λa f=>q_p 13 14 Z f (λ_=>Bs (f.e Z)) λa f=>A2 λdm w dn m=>Aa ?_
      refine Ap ?_
      have m:Mem W dm w H:=Mem.drop (H':=[ib b4 38 [bS,bU,bW,bY],bT,bV,bX,bZ,ib aD 29 [aP],ib aK 32 [aL,aN]]) m
      obtain rfl:=sj hd
      exact⟨[(.bool false)],f.g Z,f.d,_,[],(gt ad (gt ak (gt aw (gt bB (gt bG (gt bJ (gt bQ (gt ct (gt cM dn))))))))),m,Z,Z⟩
end Go.Proofs.YteijfbpfjjjedaaGreatDoor

namespace Go.Sx
def opO (op:Int→Int→Int):Option Int→Option Int→Option Int
 |none,b=>b
 |a,none=>a
 |some a,some b=>some (op a b)
structure OpC (op:Int→Int→Int):Prop where
 comm:∀a b,op a b=op b a
 assoc:∀a b c,op (op a b) c=op a (op b c)
section
variable {op : Int → Int → Int} (ho : OpC op)
theorem DH (a:Option Int):opO op a none=a:=by cases a<;>rfl
include ho in
theorem opO_comm (a b:Option Int):opO op a b=opO op b a:=by
 cases a<;>cases b<;>simp[opO,ho.comm]
include ho in
theorem Ef (a b c:Option Int):opO op (opO op a b) c=opO op a (opO op b c):=by
 cases a<;>cases b<;>cases c<;>simp[opO,ho.assoc]
def Bz {α:Type}(op:Int→Int→Int)(f:α→Option Int):List α→Option Int
 |[]=>none
 |a::l=>opO op (f a) (Bz op f l)
theorem Eg {α:Type}:∀l:List α,Bz op (λ_=>none) l=none
 |[]=>rfl
 |_::l=>by rw[Bz,Eg l];rfl
theorem CU {α:Type}{f g:α→Option Int}:∀{l:List α},(∀a∈l,f a=g a)→Bz op f l=Bz op g l
 |[],_=>rfl
 |a::l,h=>by rw[Bz,Bz,h a (List.mem_cons_self ..),CU (l:=l) λb hb=>h b (List.mem_cons_of_mem _ hb)]
include ho in
theorem EY {α:Type}(f:α→Option Int):∀l m:List α,Bz op f (l++m)=opO op (Bz op f l) (Bz op f m)
 |[],m=>by simp[Bz,opO]
 |a::l,m=>by rw[List.cons_append,Bz,Bz,EY f l m,Ef ho]
include ho in
theorem FW {α:Type}(f g:α→Option Int):∀l:List α,Bz op (λa=>opO op (f a) (g a)) l=opO op (Bz op f l) (Bz op g l)
 |[]=>rfl
 |a::l=>by
  simp only[Bz]
  rw[FW f g l,Ef ho,Ef ho]
  congr 1
  rw[←Ef ho,←Ef ho,opO_comm ho (g a)]
include ho in
theorem sumO_swap {α β:Type}(f:α→β→Option Int)(m:List β):∀l:List α,Bz op (λa=>Bz op (f a) m) l=Bz op (λb=>Bz op (λa=>f a b) l) m
 |[]=>by simp only[Bz];rw[Eg]
 |a::l=>by
  simp only[Bz]
  rw[sumO_swap f m l,FW ho]
theorem sumO_map {α β:Type}(f:β→Option Int)(g:α→β):∀l:List α,Bz op f (l.map g)=Bz op (λa=>f (g a)) l
 |[]=>rfl
 |a::l=>by rw[List.map_cons,Bz,Bz,sumO_map f g l]
include ho in
theorem Dq {α β:Type}(f:β→Option Int)(g:α→List β):∀l:List α,Bz op f (l.flatMap g)=Bz op (λa=>Bz op f (g a)) l
 |[]=>rfl
 |a::l=>by rw[List.flatMap_cons,EY ho,Bz,Dq f g l]
section
variable {K : Type} [DecidableEq K]
def atK (k:K)(p:K×Int):Option Int:=if p.1=k then some p.2 else none
def AS (op:Int→Int→Int)(P:List (K×Int)):K→Option Int:=λk=>Bz op (atK k) P
theorem tabF_nil :AS op ([]:List (K×Int))=mf0:=rfl
include ho in
theorem EW (P Q:List (K×Int))(k:K):AS op (P++Q) k=opO op (AS op P k) (AS op Q k):=EY ho _ _ _
include ho in
theorem ER (P:List (K×Int))(k:K)(x:Int):AS op (P++[(k,x)])=B3 (AS op P) k ((opO op (AS op P k) (some x)).getD 0):=by
 funext j
 rw[EW ho]
 unfold B3
 have:AS op [(k,x)] j=if k=j then some x else none:=by
  show opO op (atK j (k,x)) none=_
  rw[DH];rfl
 rw[this]
 by_cases e:j=k
 ·subst e
  rw[if_pos rfl,if_pos rfl]
  cases AS op P j<;>rfl
 ·rw[if_neg (λh=>e h.symm),if_neg e,DH]
theorem Enum.put {F:K→Option Int}{l:List (K×Int)}(h:Enum F l)(k:K)(y:Int):Enum (B3 F k y) ((k,y)::l.filter λp=>decide (p.1≠k)):=by
 refine⟨?_,λj z=> ?_⟩
 ·rw[List.map_cons,List.nodup_cons]
  refine⟨λhm=> ?_,h.1.sublist (List.filter_sublist.map _)⟩
  obtain⟨p,hp,e⟩:=List.mem_map.1 hm
  have:=(List.mem_filter.1 hp).2
  rw[decide_eq_true_eq] at this
  exact this e
 ·unfold B3
  rw[List.mem_cons,List.mem_filter,decide_eq_true_eq]
  by_cases e:j=k
  ·subst e
   rw[if_pos rfl]
   constructor
   ·intro h;cases h;exact .inl rfl
   ·rintro(h|⟨_,h⟩)
    ·rw[(Prod.mk.inj h).2]
    ·exact absurd rfl h
  ·rw[if_neg e,h.2]
   constructor
   ·exact λh=> .inr ⟨h,e⟩
   ·rintro(h|⟨h,_⟩)
    ·exact absurd (Prod.mk.inj h).1 e
    ·exact h
include ho in
theorem tabF_enum (P : List (K × Int)) : ∃ l, Enum (AS op P) l := by
  have key : ∀ (P Q : List (K × Int)) (l : List (K × Int)), Enum (AS op Q) l → ∃ l, Enum (AS op (Q ++ P)) l := by
    intro P
    induction P with
    | nil => intro Q l h; exact ⟨l, by rw [List.append_nil]; exact h⟩
    | cons p P ih =>
      intro Q l h
      have := h.put p.1 ((opO op (AS op Q p.1) (some p.2)).getD 0)
      rw [← ER ho] at this
      obtain ⟨l', h'⟩ := ih (Q ++ [p]) _ this
      exact ⟨l', by rw [List.append_assoc] at h'; exact h'⟩
  exact key P [] [] ⟨by simp, fun k y => by rw [tabF_nil]; simp [mf0]⟩
include ho in
theorem group_sum {P l:List (K×Int)}(hE:Enum (AS op P) l)(Φ:K→Int→Option Int)(hh:∀k a b,Φ k (op a b)=opO op (Φ k a) (Φ k b)):
  Bz op (λe=>Φ e.1 e.2) l=Bz op (λp=>Φ p.1 p.2) P:=by
 have hg:∀(k:K) (P:List (K×Int)),(AS op P k=none→Bz op (λp:K×Int=>if p.1=k then Φ p.1 p.2 else none) P=none)∧∀z,AS op P k=some z→Bz op (λp:K×Int=>if p.1=k then Φ p.1 p.2 else none) P=Φ k z:=by
  intro k P
  induction P with
  |nil=>exact⟨λ_=>rfl,λz h=>by cases h⟩
  |cons p P ih=>
   have e1:AS op (p::P) k=opO op (atK k p) (AS op P k):=rfl
   rw[e1,Bz]
   by_cases e:p.1=k
   ·rw[if_pos e]
    have e2:atK k p=some p.2:=if_pos e
    rw[e2]
    cases h:AS op P k with
    |none=>
     rw[ih.1 h,DH]
     exact⟨λh=>(by cases h),λz h=>by cases h;rw[DH,e]⟩
    |some y=>
     rw[ih.2 y h]
     exact⟨λh=>(by cases h),λz h=>by cases h;rw[hh,e]⟩
   ·rw[if_neg e]
    have e2:atK k p=none:=if_neg e
    rw[e2]
    exact ih
 have h1:Bz op (λe=>Φ e.1 e.2) l=Bz op (λe:K×Int=>Bz op (λp:K×Int=>if p.1=e.1 then Φ p.1 p.2 else none) P) l:=by
  refine CU λe he=> ?_
  rw[(hg e.1 P).2 e.2 ((hE.2 e.1 e.2).2 he)]
 rw[h1,sumO_swap ho]
 refine CU λp hp=> ?_
 have hex:∃y,(p.1,y)∈l:=by
  cases h:AS op P p.1 with
  |some y=>exact⟨y,(hE.2 _ _).1 h⟩
  |none=>
   exfalso
   have:∀(P:List (K×Int)),p∈P→AS op P p.1≠none:=by
    intro P
    induction P with
    |nil=>intro h;cases h
    |cons q P ih=>
     intro hm
     have e1:AS op (q::P) p.1=opO op (atK p.1 q) (AS op P p.1):=rfl
     rw[e1]
     rcases List.mem_cons.1 hm with rfl|hm
     ·rw[show atK p.1 p=some p.2 from if_pos rfl]
      cases AS op P p.1<;>simp[opO]
     ·have:=ih hm
      cases h2:AS op P p.1 with
      |none=>exact absurd h2 this
      |some z=>cases atK p.1 q<;>simp[opO]
   exact this P hp h
 obtain⟨y,hy⟩:=hex
 have hone:∀l:List (K×Int),(l.map (·.1)).Nodup→(p.1,y)∈l→Bz op (λa:K×Int=>if p.1=a.1 then Φ p.1 p.2 else none) l=Φ p.1 p.2:=by
  intro l
  induction l with
  |nil=>intro _ h;cases h
  |cons q l ih=>
   intro hn hm
   rw[List.map_cons,List.nodup_cons] at hn
   rw[Bz]
   by_cases e:p.1=q.1
   ·rw[if_pos e]
    have:Bz op (λa:K×Int=>if p.1=a.1 then Φ p.1 p.2 else none) l=Bz op (λ_=>none) l:=CU λa ha=>by
     rw[if_neg]
     intro h
     exact hn.1 (List.mem_map.2 ⟨a,ha,by rw[←e,h]⟩)
    rw[this,Eg,DH]
   ·rw[if_neg e]
    rcases List.mem_cons.1 hm with h|h
    ·exact absurd (by rw[←h]) e
    ·exact ih hn.2 h
 exact hone l hE.1 hy
end
def Bl {K K':Type}(em:K→List (K'×(Int→Int)))(e:K×Int):List (K'×Int):=(em e.1).map λc=>(c.1,c.2 e.2)
section
variable {K K' : Type} [DecidableEq K] [DecidableEq K']
include ho in
theorem emit_tab {em:K→List (K'×(Int→Int))}(hom:∀k,∀c∈em k,∀a b,c.2 (op a b)=op (c.2 a) (c.2 b)){P l:List (K×Int)}(hE:Enum (AS op P) l):AS op (l.flatMap (Bl em))=AS op (P.flatMap (Bl em)):=by
 funext k'
 unfold AS
 rw[Dq ho,Dq ho]
 have e:∀p:K×Int,Bz op (atK k') (Bl em p)=Bz op (λc:K'×(Int→Int)=>if c.1=k' then some (c.2 p.2) else none) (em p.1):=λp=>sumO_map _ _ _
 simp only[e]
 refine group_sum ho hE (λk x=>Bz op (λc:K'×(Int→Int)=>if c.1=k' then some (c.2 x) else none) (em k)) λk a b=> ?_
 rw[←FW ho]
 refine CU λc hc=> ?_
 by_cases e:c.1=k'
 ·rw[if_pos e,if_pos e,if_pos e,hom k c hc];rfl
 ·rw[if_neg e,if_neg e,if_neg e];rfl
omit [DecidableEq K] in
theorem runs_tab {em:K→List (K'×(Int→Int))}{Q:List (K'×Int)}{body:K×Int→(K'→Option Int)→Option (K'→Option Int)}{l:List (K×Int)}
  (hbody:∀l1 e l2,l=l1++e::l2→body e (AS op (Q++l1.flatMap (Bl em)))=some (AS op (Q++(l1.flatMap (Bl em)++Bl em e)))):
  DS body l (AS op Q)=some (AS op (Q++l.flatMap (Bl em))):=by
 have key:∀l2 l1,l=l1++l2→DS body l2 (AS op (Q++l1.flatMap (Bl em)))=some (AS op (Q++l.flatMap (Bl em))):=by
  intro l2
  induction l2 with
  |nil=>intro l1 h;rw[List.append_nil] at h;rw[h];rfl
  |cons e l2 ih=>
   intro l1 h
   rw[DS,hbody l1 e l2 h,bs]
   have:=ih (l1++[e]) (by rw[h];simp)
   rw[List.flatMap_append,List.flatMap_cons,List.flatMap_nil,List.append_nil] at this
   exact this
 have:=key l [] rfl
 rw[List.flatMap_nil,List.append_nil] at this
 exact this
include ho in
theorem rangeF_tab {em:K→List (K'×(Int→Int))}(hom:∀k,∀c∈em k,∀a b,c.2 (op a b)=op (c.2 a) (c.2 b)){P:List (K×Int)}{Q:List (K'×Int)}{body:K×Int→(K'→Option Int)→Option (K'→Option Int)}
  (hbody:∀l,Enum (AS op P) l→∀l1 e l2,l=l1++e::l2→body e (AS op (Q++l1.flatMap (Bl em)))=some (AS op (Q++(l1.flatMap (Bl em)++Bl em e)))):
  Cs (AS op P) body (AS op Q)=some (AS op (Q++P.flatMap (Bl em))):=by
 obtain⟨l0,h0⟩:=tabF_enum ho P
 refine rangeF_eq h0 λl hl=> ?_
 rw[runs_tab (hbody l hl)]
 congr 1
 funext k
 rw[EW ho,EW ho,emit_tab ho hom hl]
end
end
end Go.Sx

namespace Go.Sx
end Go.Sx



namespace Go.Sx
def Sh {α:Type}(xs:List α):Prop:=xs.length≤4294967296
theorem E6 (a b c:Int):D.e a b c=some (decide (b≤a)&&decide (a≤c)):=rfl
theorem Ej (a b c:Int):D.B a b c=some (decide (b≤a)&&decide (a≤c)):=rfl
theorem any_beq (xs:LI)(n:Int):xs.any (λx=>x==n)=decide (n∈xs):=by
 rw[Bool.eq_iff_iff,List.any_eq_true];simp
theorem D7 (xs:LI)(n:Int)(h:Sh xs):D.o xs n=some (decide (n∈xs)):=by
 unfold Sh at h
 unfold D.o
 refine(loop_anyb xs.length (λi=>xs.getD i 0==n) true (λi hi=> ?_) ?_ rfl rfl).trans ?_
 ·simp only[dlt hi,cond_true,Az hi,bs,wi' hi (by omega),AH hi]
  cases xs[i]==n<;>rfl
 ·simp only[Bm,cond_false]
 ·rw[range_any_list xs (λx=>x==n) _ (λi hi=>by rw[AH hi]),any_beq]
theorem F8 (xs:LI)(n:Int)(h:Sh xs):D.V xs n=some (decide (n∈xs)):=by
 unfold Sh at h
 unfold D.V D.i1
 have e:Ay (σ:=Int) (ρ:=(Unit) ⊕ (Int)) (fun(x_26:Int)=>cond (decide (x_26<(xs.length:Int))) ((idx xs x_26).bind λe_39=>cond (n==e_39) (some (.inr (.inr x_26))) (some (.inl (IntKind.i64.wrap (x_26+1))))) (some (.inr (.inl ())))) 0=
   some (((List.range xs.length).findSome? (λi=>if xs.getD i 0==n then some (Sum.inr (i:Int)) else none)).getD (.inl ())):=by
  refine CW xs.length _ _ (λi hi=> ?_) ?_
  ·simp only[dlt hi,cond_true,Az hi,bs,wi' hi (by omega),AH hi]
   rw[show (n==xs[i])=(xs[i]==n) from Bool.beq_comm ..]
   cases xs[i]==n<;>rfl
  ·simp only[Bm,cond_false]
 rw[e,bs]
 cases hf:(List.range xs.length).findSome? (λi=>if xs.getD i 0==n then some (Sum.inr (i:Int):Unit ⊕ Int) else none) with
 |none=>
  have:n∉xs:=λhm=>by
   obtain⟨i,hi,e⟩:=List.getElem_of_mem hm
   have:=(List.findSome?_eq_none_iff.1 hf) i (List.mem_range.2 hi)
   rw[AH hi,e] at this
   simp at this
  simp[this]
 |some r=>
  obtain⟨i,hi,hr⟩:=List.exists_of_findSome?_eq_some hf
  have hi':=List.mem_range.1 hi
  rw[AH hi'] at hr
  split at hr
  ·rename_i hc
   cases hr
   have:n∈xs:=by rw[←(beq_iff_eq.1 hc)];exact List.getElem_mem _
   simp[this]
  ·cases hr
def SetOf (xs:LI)(n:Int):Prop:=Inc xs∧∀x∈xs,0≤x∧x<n
theorem SetOf.len :∀{xs:LI} {n a:Int},Inc xs→(∀x∈xs,a≤x∧x<n)→xs=[]∨(xs.length:Int)≤n-a
 |[],_,_,_,_=> .inl rfl
 |x::xs,n,a,h,hr=>by
  right
  have h':=List.pairwise_cons.1 h
  have hx:=hr x (by simp)
  rcases SetOf.len (a:=x+1) (n:=n) h'.2 (λy hy=>⟨by have:=h'.1 y hy;omega,(hr y (by simp[hy])).2⟩) with e|e
  ·subst e;simp;omega
  ·simp;omega
theorem SetOf.length_le {xs:LI}{n:Int}(h:SetOf xs n)(hn:0≤n):(xs.length:Int)≤n:=by
 rcases SetOf.len h.1 h.2 with e|e
 ·subst e;simpa using hn
 ·omega
theorem inc_iff (xs:LI):Inc xs↔∀i (hi:i+1<xs.length),xs[i]<xs[i+1]:=by
 unfold Inc
 constructor
 ·intro h i hi
  exact List.pairwise_iff_getElem.1 h i (i+1) (by omega) hi (by omega)
 ·intro h
  rw[List.pairwise_iff_getElem]
  intro i j hi hj hij
  have key:∀k,∀hk:i+k+1<xs.length,xs[i]<xs[i+k+1]:=by
   intro k
   induction k with
   |zero=>intro hk;exact h i hk
   |succ k ih=>intro hk;have:=ih (by omega);have:=h (i+k+1) hk;exact Int.lt_trans (ih (by omega)) this
  obtain⟨k,rfl⟩:∃k,j=i+k+1:=⟨j-i-1,by omega⟩
  exact key k hj
def C3 (xs:LI)(n:Int):Bool:=(List.range xs.length).all λi=>(decide (0≤xs.getD i 0)&&decide (xs.getD i 0≤n-1))&& !(decide (0<i)&&decide (xs.getD i 0≤xs.getD (i-1) 0))
theorem CY (xs:LI)(n:Int):C3 xs n=true↔SetOf xs n:=by
 unfold C3 SetOf
 rw[B5,inc_iff]
 constructor
 ·intro h
  refine⟨λi hi=> ?_,λx hx=> ?_⟩
  ·have:=h (i+1) hi
   simp[hi,show i<xs.length by omega] at this
   omega
  ·obtain⟨i,hi,rfl⟩:=List.getElem_of_mem hx
   have:=h i hi
   simp[hi] at this
   omega
 ·rintro⟨h1,h2⟩ i hi
  have h3:=h2 _ (List.getElem_mem hi)
  simp[hi]
  refine⟨by omega,?_⟩
  rcases Nat.eq_zero_or_pos i with h0|h0
  ·exact .inl h0
  ·right
   have:=h1 (i-1) (by omega)
   have e:i-1+1=i:=by omega
   simp only[e] at this
   have e2:xs[i-1]?.getD 0=xs[i-1]:=by rw[List.getElem?_eq_getElem (by omega)];rfl
   rw[e2];exact this
theorem DG (xs:LI)(n:Int)(h:Sh xs)(h0:0≤n)(hn:n≤4294967296):D.v xs n=some (C3 xs n):=by
 unfold Sh at h
 unfold D.v
 refine C5 xs.length _ false (λi hi=> ?_) ?_ rfl rfl
 ·simp only[dlt hi,cond_true,Az hi,bs,wi' hi (by omega),AH hi,Ej]
  rw[w64 (x:=n-1) (by omega) (by omega)]
  cases (decide (0≤xs[i])&&decide (xs[i]≤n-1))
  ·simp
  ·by_cases h0:0<i
   ·have e1:IntKind.i64.wrap ((i:Int)-1)=((i-1:Nat):Int):=by rw[w64 (by omega) (by omega)];omega
    have hd:decide ((0:Int)<(i:Int))=true:=by simp;omega
    simp only[Bool.not_true,cond_false,hd,cond_true,e1,Az (show i-1<xs.length by omega),bs,AH (show i-1<xs.length by omega),h0,decide_true,Bool.true_and]
    cases decide (xs[i]≤xs[i-1])<;>rfl
   ·have hd:decide ((0:Int)<(i:Int))=false:=by simp;omega
    simp only[Bool.not_true,cond_false,hd,bs,h0,decide_false,Bool.false_and,Bool.not_false,Bool.and_true,if_true]
 ·simp only[Bm,cond_false]
theorem l1Set_eq (xs:LI)(n:Int)(h:Sh xs)(h0:0≤n)(hn:n≤4294967296):D.C xs n=some (C3 xs n):=by
 have hh:=h
 unfold Sh at h
 unfold D.C
 by_cases hl:n<xs.length
 ·have:C3 xs n=false:=by
   cases hb:C3 xs n
   ·rfl
   ·have:=((CY xs n).1 hb).length_le h0;omega
  simp[hl,this]
 ·simp only[hl,decide_false,cond_false]
  refine C5 xs.length _ false (λi hi=> ?_) ?_ rfl rfl
  ·simp only[dlt hi,cond_true,Az hi,bs,wi' hi (by omega),AH hi,E6]
   rw[w64 (x:=n-1) (by omega) (by omega)]
   cases (decide (0≤xs[i])&&decide (xs[i]≤n-1))
   ·simp
   ·by_cases h0:0<i
    ·have e1:IntKind.i64.wrap ((i:Int)-1)=((i-1:Nat):Int):=by rw[w64 (by omega) (by omega)];omega
     have hd:decide ((0:Int)<(i:Int))=true:=by simp;omega
     simp only[Bool.not_true,cond_false,hd,cond_true,e1,Az (show i-1<xs.length by omega),bs,AH (show i-1<xs.length by omega),h0,decide_true,Bool.true_and]
     cases decide (xs[i]≤xs[i-1])<;>rfl
    ·have hd:decide ((0:Int)<(i:Int))=false:=by simp;omega
     simp only[Bool.not_true,cond_false,hd,bs,h0,decide_false,Bool.false_and,Bool.not_false,Bool.and_true,if_true]
  ·simp only[Bm,cond_false]
def row (g:LL)(v:Nat):LI:=g.getD v []
theorem Dd {g:LL}{v:Nat}(h:v<g.length):row g v=g[v]:=AH h _
def adj (g:LL)(u v:Nat):Prop:=(v:Int)∈row g u
structure GOk (g:LL):Prop where
 n1:1≤g.length
 n16:g.length≤16
 rows:∀v,v<g.length→SetOf (row g v) g.length
 irr:∀v,v<g.length→¬adj g v v
 sym:∀u v,u<g.length→adj g u v→adj g v u
theorem GOk.mem {g:LL}(h:GOk g){u:Nat}(hu:u<g.length){x:Int}(hx:x∈row g u):∃v:Nat,x=v∧v<g.length∧adj g u v:=by
 have:=(h.rows u hu).2 x hx
 refine⟨x.toNat,by omega,by omega,?_⟩
 unfold adj
 rw[show ((x.toNat:Nat):Int)=x by omega];exact hx
theorem GOk.row_len {g:LL}(h:GOk g){u:Nat}(hu:u<g.length):(row g u).length≤16:=by
 have:=(h.rows u hu).length_le (by omega)
 have:=h.n16
 omega
theorem GOk.lt {g:LL}(h:GOk g){u v:Nat}(hu:u<g.length)(ha:adj g u v):v<g.length:=by
 obtain⟨w,h1,h2,_⟩:=h.mem hu ha
 omega
def Sh2 (g:LL):Prop:=Sh g∧∀r∈g,Sh r
theorem Sh2.row {g:LL}(h:Sh2 g){v:Nat}(hv:v<g.length):Sh (row g v):=by
 rw[Dd hv];exact h.2 _ (List.getElem_mem hv)
theorem CI {g:LL}{v:Nat}(h:v<g.length):idx g (v:Int)=some (row g v):=by rw[Dd h,Az h]
def gB1 (g:LL):Bool:=(List.range g.length).all λv=>C3 (row g v) g.length&& !decide ((v:Int)∈row g v)
def gB2 (g:LL):Bool:=(List.range g.length).all λv=>(row g v).all λx=>decide ((v:Int)∈row g x.toNat)
def gB (g:LL):Bool:=decide (1≤g.length)&&decide (g.length≤16)&&gB1 g&&gB2 g
theorem E2 (g:LL):gB g=true↔GOk g:=by
 unfold gB gB1 gB2
 simp only[Bool.and_eq_true,decide_eq_true_eq,CY,Bool.not_eq_true',decide_eq_false_iff_not,List.all_eq_true,List.mem_range]
 constructor
 ·rintro⟨⟨⟨h1,h2⟩,h3⟩,h4⟩
  refine⟨h1,h2,λv hv=>(h3 v hv).1,λv hv=>(h3 v hv).2,λu v hu ha=> ?_⟩
  have:=h4 u hu v ha
  unfold adj
  simpa using this
 ·intro h
  refine⟨⟨⟨h.n1,h.n16⟩,λv hv=>⟨h.rows v hv,h.irr v hv⟩⟩,λv hv x hx=> ?_⟩
  obtain⟨u,rfl,hu,ha⟩:=h.mem hv hx
  have:=h.sym v u hv ha
  simpa [adj] using this
theorem Dj (g:LL)(h:Sh2 g):D.t g=some (gB g):=by
 have hl:g.length≤4294967296:=h.1
 unfold D.t D.f
 simp only[bs,E6]
 by_cases hn:1≤g.length∧g.length≤16
 ·have e:(decide ((1:Int)≤(g.length:Int))&&decide ((g.length:Int)≤16))=true:=by simp;omega
  simp only[e,Bool.not_true,cond_false]
  refine(C4 g.length (λv=>C3 (row g v) g.length&& !decide ((v:Int)∈row g v)) (.inl ()) (.inr false) (λv hv=> ?_) ?_).trans ?_
  rotate_left
  ·simp only[Bm,cond_false]
  ·show cond (gB1 g) _ _=_
   have e4:gB g=(gB1 g&&gB2 g):=by unfold gB;simp[hn.1,hn.2]
   rw[e4]
   cases hc:gB1 g with
   |false=>rfl
   |true=>
    rw[cond_true,Bool.true_and]
    refine C5 g.length _ false (λv hv=> ?_) ?_ rfl rfl
    ·have hset:SetOf (row g v) g.length:=by
      have:=(B5 _ _).1 hc v hv
      simp only[Bool.and_eq_true] at this
      exact(CY _ _).1 this.1
     simp only[dlt hv,cond_true]
     refine(C4 (row g v).length (λi=>decide ((v:Int)∈row g ((row g v).getD i 0).toNat)) (.inl ()) (.inr false) (λi hi=> ?_) ?_).trans ?_
     ·have hx:=hset.2 _ (List.getElem_mem hi)
      have e5:idx g (row g v)[i]=some (row g ((row g v)[i]).toNat):=by
       have:=CI (g:=g) (v:=((row g v)[i]).toNat) (by omega)
       rwa [show ((((row g v)[i]).toNat:Nat):Int)=(row g v)[i] by omega] at this
      have hs:=h.row (v:=((row g v)[i]).toNat) (by omega)
      simp only[CI hv,bs,dlt hi,cond_true,Az hi,e5,D7 _ _ hs,wi (show i<4611686018427387904 by have:=h.row hv;unfold Sh at this;omega),AH hi]
      cases decide ((v:Int)∈row g ((row g v)[i]).toNat)<;>rfl
     ·simp only[CI hv,bs,Bm,cond_false]
     ·rw[D6 (row g v) (λx=>decide ((v:Int)∈row g x.toNat)) _ (λi hi=>by rw[AH hi]),wi' hv (by omega)]
      cases (row g v).all λx=>decide ((v:Int)∈row g x.toNat)<;>rfl
    ·simp only[Bm,cond_false]
  ·simp only[dlt hv,cond_true,CI hv,bs,l1Set_eq _ _ (h.row hv) (show (0:Int)≤(g.length:Int) by omega) (by omega),D7 _ _ (h.row hv),wi' hv (by omega)]
   cases C3 (row g v) g.length
   ·rfl
   ·cases decide ((v:Int)∈row g v)<;>rfl
 ·have e:(decide ((1:Int)≤(g.length:Int))&&decide ((g.length:Int)≤16))=false:=by
   rw[Bool.eq_false_iff];simp;omega
  simp only[e,Bool.not_false,cond_true]
  unfold gB
  congr 1
  symm
  rw[Bool.eq_false_iff]
  simp
  omega
theorem EI (g:LL)(h:Sh2 g):D.b0 g=some (gB g):=by
 have hl:g.length≤4294967296:=h.1
 unfold D.b0
 by_cases hn:1≤g.length∧g.length≤16
 ·have e:(decide ((g.length:Int)<(1:Int))||decide ((16:Int)<(g.length:Int)))=false:=by simp;omega
  simp only[e,cond_false]
  refine(C4 g.length (λv=>C3 (row g v) g.length&& !decide ((v:Int)∈row g v)) (.inl ()) (.inr false) (λv hv=> ?_) ?_).trans ?_
  rotate_left
  ·simp only[Bm,cond_false]
  ·show cond (gB1 g) _ _=_
   have e4:gB g=(gB1 g&&gB2 g):=by unfold gB;simp[hn.1,hn.2]
   rw[e4]
   cases hc:gB1 g with
   |false=>rfl
   |true=>
    rw[cond_true,Bool.true_and]
    refine C5 g.length _ false (λv hv=> ?_) ?_ rfl rfl
    ·have hset:SetOf (row g v) g.length:=by
      have:=(B5 _ _).1 hc v hv
      simp only[Bool.and_eq_true] at this
      exact(CY _ _).1 this.1
     simp only[dlt hv,cond_true,CI hv,bs]
     refine(C4 (row g v).length (λi=>decide ((v:Int)∈row g ((row g v).getD i 0).toNat)) (.inl ()) (.inr false) (λi hi=> ?_) ?_).trans ?_
     ·have hx:=hset.2 _ (List.getElem_mem hi)
      have e5:idx g (row g v)[i]=some (row g ((row g v)[i]).toNat):=by
       have:=CI (g:=g) (v:=((row g v)[i]).toNat) (by omega)
       rwa [show ((((row g v)[i]).toNat:Nat):Int)=(row g v)[i] by omega] at this
      have hs:=h.row (v:=((row g v)[i]).toNat) (by omega)
      simp only[bs,dlt hi,cond_true,Az hi,e5,F8 _ _ hs,wi (show i<4611686018427387904 by have:=h.row hv;unfold Sh at this;omega),AH hi]
      cases decide ((v:Int)∈row g ((row g v)[i]).toNat)<;>rfl
     ·simp only[Bm,cond_false]
     ·rw[D6 (row g v) (λx=>decide ((v:Int)∈row g x.toNat)) _ (λi hi=>by rw[AH hi]),wi' hv (by omega)]
      cases (row g v).all λx=>decide ((v:Int)∈row g x.toNat)<;>rfl
    ·simp only[Bm,cond_false]
  ·simp only[dlt hv,cond_true,CI hv,bs,DG _ _ (h.row hv) (show (0:Int)≤(g.length:Int) by omega) (by omega),F8 _ _ (h.row hv),wi' hv (by omega)]
   cases C3 (row g v) g.length
   ·rfl
   ·cases decide ((v:Int)∈row g v)<;>rfl
 ·have e:(decide ((g.length:Int)<(1:Int))||decide ((16:Int)<(g.length:Int)))=true:=by
   simp;omega
  simp only[e,cond_true]
  unfold gB
  congr 1
  symm
  rw[Bool.eq_false_iff]
  simp
  omega
end Go.Sx
