/- Parts. -/
import Derived.Test.YtijemnhleooagaaGreatDoorSp3
import Derived.Test.YtijemnhleooagaaGreatDoorProg
import Derived.KernelRfl
set_option linter.unusedVariables false
set_option linter.unusedSimpArgs false
set_option linter.unusedSectionVars false
set_option maxRecDepth 100000
namespace Go.Proofs.YtijemnhleooagaaGreatDoor
open Go Go.Sx
open Go.Proofs.Tryz Go.Proofs.YtijemnhleooagaaGreatDoor.Tryz IntKind
variable {W w : World} {G : GH} {H : List Itm}
theorem Wk.c {aa:Value}{ab:LL}(m:Mem W G w (H))(ac:R2 G aa ab){y:Int}(hd:D.c ab=some y):
  Calls prog 17 #[(.agg #[aa])] w (Res W G H (λ_ Ho v=>Ho=[]∧v=(iv y))):=by
 refine Au (args:=[(.agg #[aa])]) (N:=6) [.tmp 2] func17 Z Z (lb Z) Z λa f=> ?_
 unfold D.c at hd
 refine Ae (Bz (cs:=[aa]) m f Z Z Z λad w a m f=>Ac f Z λa f=>Ay (Bu underlying26 Z sizeOf24 f Z λa f=>AG 0 0 m BC f Z Z Z Z λa f=>Bg underlying24 f Z Z ac λa f=>Ac f Z λa f=>Aa (Ar (have m:=m.dp 1;?_))))
 obtain rfl:=sj hd
 exact⟨[(iv (ab.length:Int))],f.g Z,f.d,_,[],gr,m,Z,Z⟩
theorem Wk.O {aa:Value}{ab:LL}(m:Mem W G w (H))(ac:R2 G aa ab){y:(LL)}(hd:D.O ab=some y):
  Calls prog 21 #[(.agg #[aa])] w (Res W G H (λG' Ho v=>∃r0:Value,∃i0:Itm,Ho=[i0]∧r0=v∧Ow R1 30 G' i0 r0 y)):=by
 refine Au (args:=[(.agg #[aa])]) (N:=47) [.tmp 2] func21 Z Z (lb Z) Z λa f=> ?_
 unfold D.O at hd
 refine Ae (Bz (cs:=[aa]) m f Z Z Z λad w a m f=>Ac f Z λa f=>Ay (A9 (R:=R1) (xs:=([]:LL)) (RSl.one _) m T24 f Z Z Z (by decide) (All2.nil _) λae af w a m ag f=>Ac f Z λa f=>Aa (Ag (Ae (Ac f Z λa f=>Aa (Bd hd λah ai hd=> ?_))))))
 refine AL (λa w=>∃aj:LL,aj=ah∧∃(ak:GH) (al:Value) (am:Itm),GLe G ak∧Fr a 47 [(3,al)]∧Mem W ak w (am::H)∧Ow R1 30 ak am al aj) ?_ ?_
 ·refine Ao (have m:=m.fr 1;AM (λan a w=>∃ao:LL,∃ap:Int,(ao,ap)=an∧∃(aq:GH) (ar:Value) (au:Itm),GLe G aq∧Fr a 47 [(1,pb ad),(3,ar),(4,iv ap)]∧Mem W aq w (ib ad 26 [aa]::au::H)∧Ow R1 30 aq au ar ao) ai ⟨_,_,Z,_,af,ae,gr,f.k Z,m,ag⟩ ?_)
  clear ai f m
  rintro an av aw ax a w ⟨ao,ap,rfl,aq,ar,au,ay,f,m,az⟩
  refine have ac:=rd2 ay ac;Ag (Ae (Ab f Z λa f=>AA 0 0 (ds:=[aa]) m AJ f Z Z Z Z Z λa f=>Bd aw λaA aB aw=>Bj f Z call17 (Wk.c m ac aB) λaC w aD m a f=>have ac:=rd2 aD ac;have az:=od3 aD az;Ah f Z Z AV λa f=>Aa ?_))
  rcases Af aw with⟨aE,aw⟩|⟨aE,aw⟩
  ·refine Al f Z aE (Ap (Ag (Ao (Ae (Ac f Z λa f=>Aa (Bd aw λaF aG aw=> ?_))))))
   refine AL (λa w=>∃aH:LL,aH=aF∧∃(aI:GH) (aJ:Value) (aK:Itm),GLe aC aI∧Fr a 47 [(1,pb ad),(3,aJ),(4,iv ap)]∧Mem W aI w (ib ad 26 [aa]::aK::H)∧Ow R1 30 aI aK aJ aH) ?_ ?_
   ·refine Ao (AM (λaL a w=>∃aM:LL,∃aN:Int,(aM,aN)=aL∧∃(aO:GH) (aP:Value) (aQ:Itm),GLe aC aO∧Fr a 47 [(1,pb ad),(3,aP),(4,iv ap),(5,iv aN)]∧Mem W aO w (ib ad 26 [aa]::aQ::H)∧Ow R1 30 aO aQ aP aM) aG ⟨_,_,Z,_,ar,au,gr,f.k Z,m,az⟩ ?_)
    clear aG f m
    rintro aL aR aS aT a w ⟨aM,aN,rfl,aO,aP,aQ,aU,f,m,aV⟩
    refine have ac:=rd2 aU ac;Ag (Ae (Ab f Z λa f=>Bu underlying26 Z sizeOf24 f Z λa f=>AG 0 0 m BC f Z Z Z Z λa f=>Ab f Z λa f=>Bd aS λaW aX aS=>BI T24 f Z Z Z ac aX λaY aZ a a0 a1 f=>A3 m BU f Z Z a0 λa f=>Bg underlying30 f Z Z a1 λa f=>Ah f Z Z AV λa f=>Aa ?_))
    rcases Af aS with⟨a2,aS⟩|⟨a2,aS⟩
    ·refine Al f Z a2 (Ap (Ag (Ao (Ae (Bu underlying26 Z sizeOf24 f Z λa f=>AG 0 0 m BC f Z Z Z Z λa f=>Ab f Z λa f=>Bd aS λa3 a4 aS=>BI T24 f Z Z Z ac a4 λa5 a6 a a7 a8 f=>A3 m BU f Z Z a7 λa f=>Ab f Z λa f=>Bd aS λa9 ba aS=>BI T30 f Z Z Z a8 ba λbb bc a bd be f=> ?_)))))
     subst be
     refine A3 m Pl2 f Z Z bd λa f=>Ab f Z λa f=>Ah f Z Z Ci λa f=>Aa ?_
     rcases Af aS with⟨bf,aS⟩|⟨bf,aS⟩
     ·refine Al f Z bf (Aq (Ab f Z λa f=>Ab f Z λa f=>Bu underlying26 Z sizeOf24 f Z λa f=>AG 0 0 m BC f Z Z Z Z λa f=>Ab f Z λa f=>Bd aS λbg bh aS=>BI T24 f Z Z Z ac bh λbi bj a bk bl f=>A3 m BU f Z Z bk λa f=>Ab f Z λa f=>Bd aS λbm bn aS=>BI T30 f Z Z Z bl bn λbo bp a bq br f=> ?_))
      subst br
      refine A3 m Pl2 f Z Z bq λa f=>A9 (R:=R0) (xs:=([ap,bm]:LI)) (RI.one _) m T30 f Z Z Z (by decide) (All2.cons Z (All2.cons Z (All2.nil _))) λbs bt w a m bu f=> ?_
      obtain⟨bv,bw,m,bx⟩:=Ow.stamp (RI.mono _) bu m
      refine have aV:=od3 bw aV;A9 (R:=R1) (xs:=([([ap,bm]:LI)]:LL)) (RSl.one _) m T24 f Z Z Z (by decide) (All2.cons bx (All2.nil _)) λbz bA w a m bB f=>Bd aS λbC bD aS=>Bm (RSl.one _) 2 m aV Z T24 Z (by decide) f Z Z Z (Ow.src (j:=0) bB m Z) bD λbE bF w a m bG f=>Ac f Z λa f=>Aa (Aq (Ab f Z λa f=>Ah f Z Z Ax λa f=>Ac f Z λa f=>Aa (have m:=m.fr 2;have m:=m.fr 2;have m:=m.eraseAt 2;?_)))
      obtain rfl:=sj aS
      exact⟨_,Z,_,_,Z,_,bF,bE,(gt aU bw),f.k Z,m,bG⟩
     ·refine Ai f Z bf (Ap (Aq (Ab f Z λa f=>Ah f Z Z Ax λa f=>Ac f Z λa f=>Aa ?_)))
      obtain rfl:=sj aS
      exact⟨_,Z,_,_,Z,_,aP,aQ,aU,f.k Z,m,aV⟩
    ·refine Ai f Z a2 (AK Z ?_)
     obtain rfl:=sj aS
     obtain rfl:=aT _ rfl
     exact⟨_,Z,_,aP,aQ,aU,f.k Z,m,aV⟩
   ·rintro a w ⟨aH,rfl,aI,aJ,aK,bH,f,m,bI⟩
    refine Aq (Ab f Z λa f=>Ah f Z Z Ax λa f=>Ac f Z λa f=>Aa ?_)
    obtain rfl:=sj aw
    exact⟨_,Z,_,_,Z,_,aJ,aK,(gt ay (gt aD bH)),f.k Z,m,bI⟩
  ·refine Ai f Z aE (AK Z (have m:=m.fr 1;have m:=m.eraseAt 1;?_))
   obtain rfl:=sj aw
   obtain rfl:=ax _ rfl
   exact⟨_,Z,_,ar,au,(gt ay aD),f.k Z,m,az⟩
 ·rintro a w ⟨aj,rfl,ak,al,am,bJ,f,m,bK⟩
  refine Ae (Ab f Z λa f=>Ac f Z λa f=>Aa (Ar ?_))
  obtain rfl:=sj hd
  exact⟨[al],f.g Z,f.d,_,[am],bJ,m,_,_,Z,Z,bK⟩
theorem Wk.Q0 {v0:Value}{x0:LI}{x1:Int}(m:Mem W G w (H))(h0:R1 G v0 x0){y:Bool}(hd:D.Q0 x0 x1=some y):
  Calls prog 19 #[v0,iv x1] w (Res W G H (λ_ Ho v=>Ho=[]∧v=(.bool y))):=by
 refine Au (args:=[v0,iv x1]) (N:=40) [.tmp 4] func19 Z Z (lb Z) Z λa f=> ?_
 unfold D.Q0 at hd
 refine Ae (Ac f Z λa f=>Aa (Ag (Ae (Ab f Z λa f=>Bg underlying30 f Z Z h0 λa f=>Ab f Z λa f=>Ah f Z Z Ci λa f=>Aa ?_))))
 rcases Af hd with⟨aa,hd⟩|⟨aa,hd⟩
 ·refine Al f Z aa (Ae (Ac f Z λa f=>Aa (Ar ?_)))
  obtain rfl:=sj hd
  exact⟨[(.bool false)],f.g Z,f.d,_,[],gr,m,Z,Z⟩
 ·refine Ai f Z aa (Ap (Ag (Ae (Ac f Z λa f=>Aa (Bd hd λab ac hd=> ?_)))))
  refine AL (λa w=>∃q_150':Unit,ab= .inl q_150'∧∃(ad:GH),GLe G ad∧Fr a 40 []∧Mem W ad w (H)) ?_ ?_
  ·refine Ao (AM (λae a w=>∃af:Int,af=ae∧∃(ag:GH),GLe G ag∧Fr a 40 [(0,v0),(1,iv x1),(5,iv af)]∧Mem W ag w (H)) ac ⟨_,Z,_,gr,f.k Z,m⟩ ?_)
   clear ac f m
   rintro ae ah ai aj a w ⟨af,rfl,ag,ak,f,m⟩
   refine have h0:=rd1 ak h0;Ag (Ae (Ab f Z λa f=>Ab f Z λa f=>Bg underlying30 f Z Z h0 λa f=>Ah f Z Z AV λa f=>Aa ?_))
   rcases Af ai with⟨al,ai⟩|⟨al,ai⟩
   ·refine Al f Z al (Ap (Ag (Ao (Ag (A5 24 AF (by kernel_rfl) m (Aj 0 24 Z f Z λa f=>Aj 1 24 Z f Z λa f=>Bd ai λam an ai=>Cd 2 24 T30 h0 an Z f Z Z λao ap a aq ar f=> ?_))))))
    subst ar
    refine B3 3 24 Pl2 aq Z f Z λa f=>Aj 4 24 Z f Z λa f=>q_p 5 24 Z f (λ_=>A8 (f.e Z) (f.e Z) Be) λa f=>Bd ai λau av ai=>BH (i:=6) 24 Z (by kernel_rfl) Z f Z Z Z call18 (λ_ _ w aw m=>Wk.f m av) λa f=>q_p 7 24 Z f (λ_=>BN (f.e Z)) λa f=>Aj 8 24 Z f Z λa f=>Bd ai λax ay ai=>CM (fuel':=0) (listed':= #[true,true,true,true,true,true,true,true,true,true,true,true,true,true,true,true,true,true,true,true,true,true,true,true]) (λa=>Fr a 40 [(0,v0),(1,iv x1),(5,iv af),(13,(.bool (decide (af<(x0.length:Int))))),(16,v0),(17,iv af),(18,ao),(19,iv am),(20,iv x1),(21,(iv (i64.wrap (x1-1)))),(22,(.bool au)),(23,(.bool (!au))),(24,(.bool (!au))),(39,(.bool ax))]) ?_ ?_
    ·intro a f
     refine AO λaz w aA m=>Aa ?_
     rcases Af ai with⟨aB,ai⟩|⟨aB,ai⟩
     ·refine Al f Z aB (Ae (Ac f Z λa f=>Aa (Ar ?_)))
      obtain rfl:=sj ai
      obtain rfl:=aj _ rfl
      obtain rfl:=sj hd
      exact⟨[(.bool false)],f.g Z,f.d,_,[],(gt ak aA),m,Z,Z⟩
     ·refine Ai f Z aB (Ap (Aq (Ab f Z λa f=>Ah f Z Z Ax λa f=>Ac f Z λa f=>Aa ?_)))
      obtain rfl:=sj ai
      exact⟨_,Z,_,Z,_,(gt ak aA),f.k Z,m⟩
    ·intro aC
     rcases Af ay with⟨aD,ay⟩|⟨aD,ay⟩
     ·refine AD 9 24 Z f aD λa f=>AD 10 24 Z f aD λa f=>AD 11 24 Z f aD λa f=>q_nu 12 24 Z f λa f=>q_nu 13 24 Z f λa f=>q_nu 14 24 Z f λa f=>q_nu 15 24 Z f λa f=>q_nu 16 24 Z f λa f=>q_nu 17 24 Z f λa f=>q_nu 18 24 Z f λa f=>q_nu 19 24 Z f λa f=>q_nu 20 24 Z f λa f=>q_nu 21 24 Z f λa f=>AD 22 24 Z f aD λa f=>q_p 23 24 Z f (λ_=>AY (f.e Z) aD (f.e Z)) λa f=> ?_
      obtain rfl:=sj ay
      exact aC _ (f.k Z)
     ·refine Aj (hw:=wo f aD) 9 24 Z f Z λa f=>q_p (hw:=wo f aD) 10 24 Z f (λ_=>A8 (f.e Z) (f.e Z) Ci) λa f=>Aj (hw:=wo f aD) 11 24 Z f Z λa f=>Bd ay λaE aF ay=>CM (fuel':=1) (listed':= #[true,true,true,true,true,true,true,true,true,true,true,true,true,true,true,true,true,true,true,true,true,true,true,false]) (λa=>Fr a 40 [(0,v0),(1,iv x1),(5,iv af),(13,(.bool (decide (af<(x0.length:Int))))),(16,v0),(17,iv af),(18,ao),(19,iv am),(20,iv x1),(21,(iv (i64.wrap (x1-1)))),(22,(.bool au)),(23,(.bool (!au))),(24,(.bool (!au))),(25,iv af),(26,(.bool (decide ((0:Int)<af)))),(27,(.bool (decide ((0:Int)<af)))),(38,(.bool aE))]) ?_ ?_
      ·intro a f
       refine q_p 23 24 Z f (λ_=>AX (f.e Z) aD (f.e Z)) λa f=> ?_
       obtain rfl:=sj ay
       exact aC _ (f.k Z)
      ·intro aG
       rcases Af aF with⟨aH,aF⟩|⟨aH,aF⟩
       ·refine Aj (hw:=wo f aH) 12 24 Z f Z λa f=>Aj (hw:=wo f aH) 13 24 Z f Z λa f=>Bd aF λaI aJ aF=>Cd (hw:=wo f aH) 14 24 T30 h0 aJ Z f Z Z λaK aL a aM aN f=> ?_
        subst aN
        refine B3 (hw:=wo f aH) 15 24 Pl2 aM Z f Z λa f=>Aj (hw:=wo f aH) 16 24 Z f Z λa f=>Aj (hw:=wo f aH) 17 24 Z f Z λa f=>q_p (hw:=wo f aH) 18 24 Z f (λ_=>A8 (f.e Z) (f.e Z) Be) λa f=>Bd aF λaO aP aF=>Cd (hw:=wo f aH) 19 24 T30 h0 aP Z f Z Z λaQ aR a aS aT f=> ?_
        subst aT
        refine B3 (hw:=wo f aH) 20 24 Pl2 aS Z f Z λa f=>q_p (hw:=wo f aH) 21 24 Z f (λ_=>A8 (f.e Z) (f.e Z) CL) λa f=>q_p (hw:=wo f aD) 22 24 Z f (λ_=>AY (f.e Z) aH (f.e Z)) λa f=> ?_
        obtain rfl:=sj aF
        exact aG _ (f.k Z)
       ·refine AD 12 24 Z f aH λa f=>AD 13 24 Z f aH λa f=>AD 14 24 Z f aH λa f=>AD 15 24 Z f aH λa f=>AD 16 24 Z f aH λa f=>AD 17 24 Z f aH λa f=>AD 18 24 Z f aH λa f=>AD 19 24 Z f aH λa f=>AD 20 24 Z f aH λa f=>AD 21 24 Z f aH λa f=>q_p (hw:=wo f aD) 22 24 Z f (λ_=>AX (f.e Z) aH (f.e Z)) λa f=> ?_
        obtain rfl:=sj aF
        exact aG _ (f.k Z)
   ·refine Ai f Z al (AK Z ?_)
    obtain rfl:=sj ai
    obtain rfl:=aj _ rfl
    exact⟨_,Z,_,ak,f.weak trivial,m⟩
  ·rintro a w ⟨_,rfl,ad,aU,f,m⟩
   refine Ae (Ac f Z λa f=>Aa (Ar ?_))
   obtain rfl:=sj hd
   exact⟨[(.bool true)],f.g Z,f.d,_,[],aU,m,Z,Z⟩
theorem Wk.P {v0:Value}{x0:LI}{x1:Int}(m:Mem W G w (H))(h0:R1 G v0 x0){y:Bool}(hd:D.P x0 x1=some y):
  Calls prog 20 #[v0,iv x1] w (Res W G H (λ_ Ho v=>Ho=[]∧v=(.bool y))):=by
 refine Au (args:=[v0,iv x1]) (N:=18) [.tmp 4] func20 Z Z (lb Z) Z λa f=> ?_
 unfold D.P at hd
 refine Ae (Ac f Z λa f=>Aa (Ag (Ae (Ac f Z λa f=>Aa (Bd hd λaa ab hd=> ?_)))))
 refine AL (λa w=>∃q_19':Unit,aa= .inl q_19'∧∃(ac:GH),GLe G ac∧Fr a 18 []∧Mem W ac w (H)) ?_ ?_
 ·refine Ao (AM (λad a w=>∃ae:Int,ae=ad∧∃(af:GH),GLe G af∧Fr a 18 [(0,v0),(1,iv x1),(5,iv ae)]∧Mem W af w (H)) ab ⟨_,Z,_,gr,f.k Z,m⟩ ?_)
  clear ab f m
  rintro ad ag ah ai a w ⟨ae,rfl,af,aj,f,m⟩
  refine have h0:=rd1 aj h0;Ag (Ae (Ab f Z λa f=>Ab f Z λa f=>Bg underlying30 f Z Z h0 λa f=>Ah f Z Z AV λa f=>Aa ?_))
  rcases Af ah with⟨ak,ah⟩|⟨ak,ah⟩
  ·refine Al f Z ak (Ap (Ag (Ao (Ae (Ab f Z λa f=>Ab f Z λa f=>Bd ah λal am ah=>BI T30 f Z Z Z h0 am λan ao a ap aq f=> ?_)))))
   subst aq
   refine A3 m Pl2 f Z Z ap λa f=>Ab f Z λa f=>Ah f Z Z BA λa f=>Aa ?_
   rcases Af ah with⟨ar,ah⟩|⟨ar,ah⟩
   ·refine Al f Z ar (Ae (Ac f Z λa f=>Aa (Ar ?_)))
    obtain rfl:=sj ah
    obtain rfl:=ai _ rfl
    obtain rfl:=sj hd
    exact⟨[(.bool true)],f.g Z,f.d,_,[],aj,m,Z,Z⟩
   ·refine Ai f Z ar (Ap (Aq (Ab f Z λa f=>Ah f Z Z Ax λa f=>Ac f Z λa f=>Aa ?_)))
    obtain rfl:=sj ah
    exact⟨_,Z,_,Z,_,aj,f.k Z,m⟩
  ·refine Ai f Z ak (AK Z ?_)
   obtain rfl:=sj ah
   obtain rfl:=ai _ rfl
   exact⟨_,Z,_,aj,f.weak trivial,m⟩
 ·rintro a w ⟨_,rfl,ac,au,f,m⟩
  refine Ae (Ac f Z λa f=>Aa (Ar ?_))
  obtain rfl:=sj hd
  exact⟨[(.bool false)],f.g Z,f.d,_,[],au,m,Z,Z⟩
theorem Wk.q {aa:Value}{ab:LL}(m:Mem W G w (H))(ac:R2 G aa ab){y:Bool}(hd:D.q ab=some y):
  Calls prog 6 #[(.agg #[aa])] w (Res W G H (λ_ Ho v=>Ho=[]∧v=(.bool y))):=by
 refine Au (args:=[(.agg #[aa])]) (N:=64) [.tmp 2] func6 Z Z (lb Z) Z λa f=> ?_
 unfold D.q at hd
 refine Ae (Bz (cs:=[aa]) m f Z Z Z λad w a m f=>Ac f Z λa f=>Ay (AA 0 0 (ds:=[aa]) m AJ f Z Z Z Z Z λa f=>Bd hd λae af hd=>Bj f Z call17 (Wk.c m ac af) λag w ah m a f=>have ac:=rd2 ah ac;Ac f Z λa f=>Aa (Ag (Ae (Ab f Z λa f=>Bd hd λai aj hd=>Bj f Z call18 (Wk.f m aj) λak w al m a f=>have ac:=rd2 al ac;l_o f (BN (f.e Z)) λa f=>Aa ?_)))))
 rcases Af hd with⟨am,hd⟩|⟨am,hd⟩
 ·refine Al f Z am (Ae (Ac f Z λa f=>Aa (Ar (have m:=m.dp 1;?_))))
  obtain rfl:=sj hd
  exact⟨[(.bool false)],f.g Z,f.d,_,[],(gt ah al),m,Z,Z⟩
 ·refine Ai f Z am (Ap (Ag (Ae (Ac f Z λa f=>Aa (Bd hd λan ao hd=> ?_)))))
  refine AL (λa w=>∃q_138':Unit,an= .inl q_138'∧∃(ap:GH),GLe ak ap∧Fr a 64 [(1,pb ad),(3,iv ae)]∧Mem W ap w (ib ad 26 [aa]::H)) ?_ ?_
  ·refine Ao (AM (λaq a w=>∃ar:Int,ar=aq∧∃(au:GH),GLe ak au∧Fr a 64 [(1,pb ad),(3,iv ae),(4,iv ar)]∧Mem W au w (ib ad 26 [aa]::H)) ao ⟨_,Z,_,gr,f.k Z,m⟩ ?_)
   clear ao f m
   rintro aq av aw ax a w ⟨ar,rfl,au,ay,f,m⟩
   refine have ac:=rd2 ay ac;Ag (Ae (Ab f Z λa f=>Ab f Z λa f=>Ah f Z Z AV λa f=>Aa ?_))
   rcases Af aw with⟨az,aw⟩|⟨az,aw⟩
   ·refine Al f Z az (Ap (Ag (Ao (Ae (Bu underlying26 Z sizeOf24 f Z λa f=>AG 0 0 m BC f Z Z Z Z λa f=>Ab f Z λa f=>Bd aw λaA aB aw=>BI T24 f Z Z Z ac aB λaC aD a aE aF f=>A3 m BU f Z Z aE λa f=>Ab f Z λa f=>Bd aw λaG aH aw=>Bj f Z call19 (Wk.Q0 m aF aH) λaI w aJ m a f=>have ac:=rd2 aJ ac;l_o f (BN (f.e Z)) λa f=>Ab f Z λa f=>Bd aw λaK aL aw=> ?_)))))
    refine BF 8 (λa w=>∃aM,GLe aI aM∧Mem W aM w (ib ad 26 [aa]::H)∧Fr a 64 [(1,pb ad),(3,iv ae),(4,iv ar),(14,(.bool (decide (ar<ae)))),(17,pb ad),(18,aa),(19,iv ar),(20,aC),(21,aD),(22,iv ae),(23,(.bool aG)),(24,(.bool (!aG))),(25,(.bool (!aG))),(33,(.bool aK))]) ?_ ?_
    ·rcases Af aL with⟨aN,aL⟩|⟨aN,aL⟩
     ·refine AC f aN λa f=>AC f aN λa f=>AC f aN λa f=>AC f aN λa f=>AC f aN λa f=>AC f aN λa f=>AC f aN λa f=>l_o f (AY (f.e Z) aN (f.e Z)) λa f=> ?_
      obtain rfl:=sj aL
      exact⟨_,gr,m,f.k Z⟩
     ·refine AB f aN (Bu underlying26 Z sizeOf24 f Z λa f=>AB f aN (AG 0 0 m BC f Z Z Z Z λa f=>AB f aN (Ab f Z λa f=>AB f aN (Bd aL λaO aP aL=>BI T24 f Z Z Z ac aP λaQ aR a aS aT f=>AB f aN (A3 m BU f Z Z aS λa f=>AB f aN (Ab f Z λa f=>AB f aN (Bd aL λaU aV aL=>Bj f Z call20 (Wk.P m aT aV) λaW w aX m a f=>l_o f (AX (f.e Z) aN (f.e Z)) λa f=> ?_)))))))
      obtain rfl:=sj aL
      exact⟨_,aX,m,f.k Z⟩
    ·rintro a w ⟨aM,aY,m,f⟩
     refine Aa ?_
     rcases Af aw with⟨aZ,aw⟩|⟨aZ,aw⟩
     ·refine Al f Z aZ (Ae (Ac f Z λa f=>Aa (Ar (have m:=m.dp 1;?_))))
      obtain rfl:=sj aw
      obtain rfl:=ax _ rfl
      obtain rfl:=sj hd
      exact⟨[(.bool false)],f.g Z,f.d,_,[],(gt ah (gt al (gt ay (gt aJ aY)))),m,Z,Z⟩
     ·refine Ai f Z aZ (Ap (Aq (Ab f Z λa f=>Ah f Z Z Ax λa f=>Ac f Z λa f=>Aa ?_)))
      obtain rfl:=sj aw
      exact⟨_,Z,_,Z,_,(gt ay (gt aJ aY)),f.k Z,m⟩
   ·refine Ai f Z az (AK Z ?_)
    obtain rfl:=sj aw
    obtain rfl:=ax _ rfl
    exact⟨_,Z,_,ay,f.k Z,m⟩
  ·rintro a w ⟨_,rfl,ap,a0,f,m⟩
   refine have ac:=rd2 a0 ac;Ag (Ae (Ac f Z λa f=>Aa (Bd hd λa1 a2 hd=> ?_)))
   refine AL (λa w=>∃q_545':Unit,a1= .inl q_545'∧∃(a3:GH),GLe ap a3∧Fr a 64 []∧Mem W a3 w (H)) ?_ ?_
   ·refine Ao (AM (λa4 a w=>∃a5:Int,a5=a4∧∃(a6:GH),GLe ap a6∧Fr a 64 [(1,pb ad),(3,iv ae),(5,iv a5)]∧Mem W a6 w (ib ad 26 [aa]::H)) a2 ⟨_,Z,_,gr,f.k Z,m⟩ ?_)
    clear a2 f m
    rintro a4 a7 a8 a9 a w ⟨a5,rfl,a6,ba,f,m⟩
    refine have ac:=rd2 ba ac;Ag (Ae (Ab f Z λa f=>Ab f Z λa f=>Ah f Z Z AV λa f=>Aa ?_))
    rcases Af a8 with⟨bb,a8⟩|⟨bb,a8⟩
    ·refine Al f Z bb (Ap (Ag (Ao (Ae (Ac f Z λa f=>Aa (Bd a8 λbc bd a8=> ?_))))))
     refine AL (λa w=>∃q_759':Unit,bc= .inl q_759'∧∃(be:GH),GLe a6 be∧Fr a 64 [(1,pb ad),(3,iv ae),(5,iv a5)]∧Mem W be w (ib ad 26 [aa]::H)) ?_ ?_
     ·refine Ao (AM (λbf a w=>∃bg:Int,bg=bf∧∃(bh:GH),GLe a6 bh∧Fr a 64 [(1,pb ad),(3,iv ae),(5,iv a5),(6,iv bg)]∧Mem W bh w (ib ad 26 [aa]::H)) bd ⟨_,Z,_,gr,f.k Z,m⟩ ?_)
      clear bd f m
      rintro bf bi bj bk a w ⟨bg,rfl,bh,bl,f,m⟩
      refine have ac:=rd2 bl ac;Ag (Ae (Ab f Z λa f=>Bu underlying26 Z sizeOf24 f Z λa f=>AG 0 0 m BC f Z Z Z Z λa f=>Ab f Z λa f=>Bd bj λbm bn bj=>BI T24 f Z Z Z ac bn λbo bp a bq br f=>A3 m BU f Z Z bq λa f=>Bg underlying30 f Z Z br λa f=>Ah f Z Z AV λa f=>Aa ?_))
      rcases Af bj with⟨bs,bj⟩|⟨bs,bj⟩
      ·refine Al f Z bs (Ap (Ag (Ao (Ag (A5 15 AF (by kernel_rfl) m (BE 0 15 underlying26 Z sizeOf24 Z f Z λa f=>Bf 1 15 0 BC Z Z Z f Z λa f=>BE 2 15 underlying26 Z sizeOf24 Z f Z λa f=>Bf 3 15 0 BC Z Z Z f Z λa f=>Aj 4 15 Z f Z λa f=>Bd bj λbt bu bj=>Cd 5 15 T24 ac bu Z f Z Z λbv bw a bx bz f=>B3 6 15 BU bx Z f Z λa f=>Aj 7 15 Z f Z λa f=>Bd bj λbA bB bj=>Cd 8 15 T30 bz bB Z f Z Z λbC bD a bE bF f=> ?_))))))
       subst bF
       refine B3 9 15 Pl2 bE Z f Z λa f=>Bd bj λbG bH bj=>Cd 10 15 T24 ac bH Z f Z Z λbI bJ a bK bL f=>B3 11 15 BU bK Z f Z λa f=>Aj 12 15 Z f Z λa f=>Bd bj λbM bN bj=>BH (i:=13) 15 Z (by kernel_rfl) Z f Z Z Z call20 (λ_ _ w bO m=>Wk.P m (rd1 bO bL) bN) λa f=>q_p 14 15 Z f (λ_=>BN (f.e Z)) λa f=>AO λbP w bQ m=>Aa ?_
       rcases Af bj with⟨bR,bj⟩|⟨bR,bj⟩
       ·refine Al f Z bR (Ae (Ac f Z λa f=>Aa (Ar (have m:=m.dp 1;?_))))
        obtain rfl:=sj bj
        obtain rfl:=bk _ rfl
        obtain rfl:=sj a8
        obtain rfl:=a9 _ rfl
        obtain rfl:=sj hd
        exact⟨[(.bool false)],f.g Z,f.d,_,[],(gt ah (gt al (gt a0 (gt ba (gt bl bQ))))),m,Z,Z⟩
       ·refine Ai f Z bR (Ap (Aq (Ab f Z λa f=>Ah f Z Z Ax λa f=>Ac f Z λa f=>Aa ?_)))
        obtain rfl:=sj bj
        exact⟨_,Z,_,Z,_,(gt bl bQ),f.k Z,m⟩
      ·refine Ai f Z bs (AK Z ?_)
       obtain rfl:=sj bj
       obtain rfl:=bk _ rfl
       exact⟨_,Z,_,bl,f.k Z,m⟩
     ·rintro a w ⟨_,rfl,be,bS,f,m⟩
      refine Aq (Ab f Z λa f=>Ah f Z Z Ax λa f=>Ac f Z λa f=>Aa ?_)
      obtain rfl:=sj a8
      exact⟨_,Z,_,Z,_,(gt ba bS),f.k Z,m⟩
    ·refine Ai f Z bb (AK Z (have m:=m.dp 1;?_))
     obtain rfl:=sj a8
     obtain rfl:=a9 _ rfl
     exact⟨_,Z,_,ba,f.weak trivial,m⟩
   ·rintro a w ⟨_,rfl,a3,bT,f,m⟩
    refine Ae (Ac f Z λa f=>Aa (Ar ?_))
    obtain rfl:=sj hd
    exact⟨[(.bool true)],f.g Z,f.d,_,[],(gt ah (gt al (gt a0 bT))),m,Z,Z⟩
theorem Wk.s {aa:Value}{ab:LL}{x1:Int}(m:Mem W G w (H))(ac:R2 G aa ab){y:Bool}(hd:D.s ab x1=some y):
  Calls prog 27 #[(.agg #[aa]),iv x1] w (Res W G H (λ_ Ho v=>Ho=[]∧v=(.bool y))):=by
 refine Au (args:=[(.agg #[aa]),iv x1]) (N:=10) [.tmp 4] func27 Z Z (lb Z) Z λa f=> ?_
 unfold D.s at hd
 refine Ae (Bz (cs:=[aa]) m f Z Z Z λad w a m f=>Ac f Z λa f=>Ay (Ab f Z λa f=>AA 0 0 (ds:=[aa]) m AJ f Z Z Z Z Z λa f=>Bd hd λae af hd=>Bj f Z call17 (Wk.c m ac af) λag w ah m a f=>Ah f Z Z Be λa f=>Bd hd λai aj hd=>Bj f Z call18 (Wk.f m aj) λak w al m a f=>Ac f Z λa f=>Aa (Ar (have m:=m.dp 1;?_))))
 obtain rfl:=sj hd
 exact⟨[(.bool ai)],f.g Z,f.d,_,[],(gt ah al),m,Z,Z⟩
theorem Wk.i {aa:Value}{ab:LL}{x1 x2:Int}(m:Mem W G w (H))(ac:R2 G aa ab){y:Bool}(hd:D.i ab x1 x2=some y):
  Calls prog 28 #[(.agg #[aa]),iv x1,iv x2] w (Res W G H (λ_ Ho v=>Ho=[]∧v=(.bool y))):=by
 refine Au (args:=[(.agg #[aa]),iv x1,iv x2]) (N:=14) [.tmp 6] func28 Z Z (lb Z) Z λa f=> ?_
 unfold D.i at hd
 refine Ae (Bz (cs:=[aa]) m f Z Z Z λad w a m f=>Ac f Z λa f=>Ay (Bu underlying26 Z sizeOf24 f Z λa f=>AG 0 0 m BC f Z Z Z Z λa f=>Ab f Z λa f=>Bd hd λae af hd=>BI T24 f Z Z Z ac af λag ah a ai aj f=>A3 m BU f Z Z ai λa f=>Ab f Z λa f=>Bd hd λak al hd=>Bj f Z call20 (Wk.P m aj al) λam w an m a f=>Ac f Z λa f=>Aa (Ar (have m:=m.dp 1;?_))))
 obtain rfl:=sj hd
 exact⟨[(.bool ak)],f.g Z,f.d,_,[],an,m,Z,Z⟩
theorem Wk.E0 {aa:Value}{ab:LL}{x1 x2:Int}(m:Mem W G w (H))(ac:R2 G aa ab){y:Bool}(hd:D.E0 ab x1 x2=some y):
  Calls prog 10 #[(.agg #[aa]),iv x1,iv x2] w (Res W G H (λ_ Ho v=>Ho=[]∧v=(.bool y))):=by
 refine Au (args:=[(.agg #[aa]),iv x1,iv x2]) (N:=25) [.tmp 6] func10 Z Z (lb Z) Z λa f=> ?_
 unfold D.E0 at hd
 refine Ae (Bz (cs:=[aa]) m f Z Z Z λad w a m f=>Ac f Z λa f=>Ay (AA 0 0 (ds:=[aa]) m AJ f Z Z Z Z Z λa f=>Bd hd λae af hd=>Bj f Z call6 (Wk.q m ac af) λag w ah m a f=>have ac:=rd2 ah ac;Ab f Z λa f=>Bd hd λai aj hd=> ?_))
 refine BF 4 (λa w=>∃ak,GLe ag ak∧Mem W ak w (ib ad 26 [aa]::H)∧Fr a 25 [(0,(.agg #[aa])),(1,iv x1),(2,iv x2),(3,pb ad),(7,(.agg #[aa])),(8,(.bool ae)),(9,(.bool ae)),(13,(.bool ai))]) ?_ ?_
 ·rcases Af aj with⟨al,aj⟩|⟨al,aj⟩
  ·refine AB f al (AA 0 0 (ds:=[aa]) m AJ f Z Z Z Z Z λa f=>AB f al (Ab f Z λa f=>AB f al (Bd aj λam an aj=>Bj f Z call27 (Wk.s m ac an) λao w ap m a f=>l_o f (AY (f.e Z) al (f.e Z)) λa f=> ?_)))
   obtain rfl:=sj aj
   exact⟨_,ap,m,f.k Z⟩
  ·refine AC f al λa f=>AC f al λa f=>AC f al λa f=>l_o f (AX (f.e Z) al (f.e Z)) λa f=> ?_
   obtain rfl:=sj aj
   exact⟨_,gr,m,f.k Z⟩
 ·rintro a w ⟨ak,aq,m,f⟩
  refine have ac:=rd2 aq ac;Ab f Z λa f=>Bd hd λar au hd=> ?_
  refine BF 4 (λa w=>∃av,GLe ak av∧Mem W av w (ib ad 26 [aa]::H)∧Fr a 25 [(0,(.agg #[aa])),(1,iv x1),(2,iv x2),(3,pb ad),(7,(.agg #[aa])),(8,(.bool ae)),(9,(.bool ae)),(13,(.bool ai)),(14,(.bool ai)),(18,(.bool ar))]) ?_ ?_
  ·rcases Af au with⟨aw,au⟩|⟨aw,au⟩
   ·refine AB f aw (AA 0 0 (ds:=[aa]) m AJ f Z Z Z Z Z λa f=>AB f aw (Ab f Z λa f=>AB f aw (Bd au λax ay au=>Bj f Z call27 (Wk.s m ac ay) λaz w aA m a f=>l_o f (AY (f.e Z) aw (f.e Z)) λa f=> ?_)))
    obtain rfl:=sj au
    exact⟨_,aA,m,f.k Z⟩
   ·refine AC f aw λa f=>AC f aw λa f=>AC f aw λa f=>l_o f (AX (f.e Z) aw (f.e Z)) λa f=> ?_
    obtain rfl:=sj au
    exact⟨_,gr,m,f.k Z⟩
  ·rintro a w ⟨av,aB,m,f⟩
   refine have ac:=rd2 aB ac;Ab f Z λa f=>Bd hd λaC aD hd=> ?_
   refine BF 5 (λa w=>∃aE,GLe av aE∧Mem W aE w (ib ad 26 [aa]::H)∧Fr a 25 [(0,(.agg #[aa])),(1,iv x1),(2,iv x2),(3,pb ad),(7,(.agg #[aa])),(8,(.bool ae)),(9,(.bool ae)),(13,(.bool ai)),(14,(.bool ai)),(18,(.bool ar)),(19,(.bool ar)),(24,(.bool aC))]) ?_ ?_
   ·rcases Af aD with⟨aF,aD⟩|⟨aF,aD⟩
    ·refine AB f aF (AA 0 0 (ds:=[aa]) m AJ f Z Z Z Z Z λa f=>AB f aF (Ab f Z λa f=>AB f aF (Ab f Z λa f=>AB f aF (Bd aD λaG aH aD=>Bj f Z call28 (Wk.i m ac aH) λaI w aJ m a f=>l_o f (AY (f.e Z) aF (f.e Z)) λa f=> ?_))))
     obtain rfl:=sj aD
     exact⟨_,aJ,m,f.k Z⟩
    ·refine AC f aF λa f=>AC f aF λa f=>AC f aF λa f=>AC f aF λa f=>l_o f (AX (f.e Z) aF (f.e Z)) λa f=> ?_
     obtain rfl:=sj aD
     exact⟨_,gr,m,f.k Z⟩
   ·rintro a w ⟨aE,aK,m,f⟩
    refine Ac f Z λa f=>Aa (Ar (have m:=m.dp 1;?_))
    obtain rfl:=sj hd
    exact⟨[(.bool aC)],f.g Z,f.d,_,[],(gt ah (gt aq (gt aB aK))),m,Z,Z⟩
theorem Wk.I0 {aa:Value}{ab:LL}{x1 x2:Int}(m:Mem W G w (H))(ac:R2 G aa ab){y:Bool}(hd:D.I0 ab x1 x2=some y):
  Calls prog 65 #[(.agg #[aa]),iv x1,iv x2] w (Res W G H (λ_ Ho v=>Ho=[]∧v=(.bool y))):=by
 refine Au (args:=[(.agg #[aa]),iv x1,iv x2]) (N:=24) [.tmp 6] func65 Z Z (lb Z) Z λa f=> ?_
 unfold D.I0 at hd
 refine Ae (Bz (cs:=[aa]) m f Z Z Z λad w a m f=>Ac f Z λa f=>Ay (AA 0 0 (ds:=[aa]) m AJ f Z Z Z Z Z λa f=>Bd hd λae af hd=>Bj f Z call6 (Wk.q m ac af) λag w ah m a f=>have ac:=rd2 ah ac;Ab f Z λa f=>Bd hd λai aj hd=> ?_))
 refine BF 4 (λa w=>∃ak,GLe ag ak∧Mem W ak w (ib ad 26 [aa]::H)∧Fr a 24 [(0,(.agg #[aa])),(1,iv x1),(2,iv x2),(3,pb ad),(7,(.agg #[aa])),(8,(.bool ae)),(9,(.bool ae)),(13,(.bool ai))]) ?_ ?_
 ·rcases Af aj with⟨al,aj⟩|⟨al,aj⟩
  ·refine AB f al (AA 0 0 (ds:=[aa]) m AJ f Z Z Z Z Z λa f=>AB f al (Ab f Z λa f=>AB f al (Bd aj λam an aj=>Bj f Z call27 (Wk.s m ac an) λao w ap m a f=>l_o f (AY (f.e Z) al (f.e Z)) λa f=> ?_)))
   obtain rfl:=sj aj
   exact⟨_,ap,m,f.k Z⟩
  ·refine AC f al λa f=>AC f al λa f=>AC f al λa f=>l_o f (AX (f.e Z) al (f.e Z)) λa f=> ?_
   obtain rfl:=sj aj
   exact⟨_,gr,m,f.k Z⟩
 ·rintro a w ⟨ak,aq,m,f⟩
  refine have ac:=rd2 aq ac;Ab f Z λa f=>Bd hd λar au hd=> ?_
  refine BF 4 (λa w=>∃av,GLe ak av∧Mem W av w (ib ad 26 [aa]::H)∧Fr a 24 [(0,(.agg #[aa])),(1,iv x1),(2,iv x2),(3,pb ad),(7,(.agg #[aa])),(8,(.bool ae)),(9,(.bool ae)),(13,(.bool ai)),(14,(.bool ai)),(18,(.bool ar))]) ?_ ?_
  ·rcases Af au with⟨aw,au⟩|⟨aw,au⟩
   ·refine AB f aw (AA 0 0 (ds:=[aa]) m AJ f Z Z Z Z Z λa f=>AB f aw (Ab f Z λa f=>AB f aw (Bd au λax ay au=>Bj f Z call27 (Wk.s m ac ay) λaz w aA m a f=>l_o f (AY (f.e Z) aw (f.e Z)) λa f=> ?_)))
    obtain rfl:=sj au
    exact⟨_,aA,m,f.k Z⟩
   ·refine AC f aw λa f=>AC f aw λa f=>AC f aw λa f=>l_o f (AX (f.e Z) aw (f.e Z)) λa f=> ?_
    obtain rfl:=sj au
    exact⟨_,gr,m,f.k Z⟩
  ·rintro a w ⟨av,aB,m,f⟩
   refine Ab f Z λa f=> ?_
   refine BF 4 (λa w=>∃aC,GLe av aC∧Mem W aC w (ib ad 26 [aa]::H)∧Fr a 24 [(0,(.agg #[aa])),(1,iv x1),(2,iv x2),(3,pb ad),(7,(.agg #[aa])),(8,(.bool ae)),(9,(.bool ae)),(13,(.bool ai)),(14,(.bool ai)),(18,(.bool ar)),(19,(.bool ar)),(23,(.bool (ar&&(x1 !=x2))))]) ?_ ?_
   ·rcases Bool.eq_false_or_eq_true ar with aD|aD
    ·exact AB f aD (Ab f Z λa f=>AB f aD (Ab f Z λa f=>AB f aD (Ah f Z Z Dc λa f=>l_o f (AY (f.e Z) aD (f.e Z)) λa f=>⟨_,gr,m,f.weak ⟨Z,Z,Z,Z,Z,Z,Z,Z,Z,Z,Z,by rw[aD];rfl,trivial⟩⟩)))
    ·exact AC f aD λa f=>AC f aD λa f=>AC f aD λa f=>l_o f (AX (f.e Z) aD (f.e Z)) λa f=>⟨_,gr,m,f.weak ⟨Z,Z,Z,Z,Z,Z,Z,Z,Z,Z,Z,by rw[aD];rfl,trivial⟩⟩
   ·rintro a w ⟨aC,aE,m,f⟩
    refine Ac f Z λa f=>Aa (Ar (have m:=m.dp 1;?_))
    obtain rfl:=sj hd
    exact⟨[(.bool (ar&&(x1 !=x2)))],f.g Z,f.d,_,[],(gt ah (gt aq (gt aB aE))),m,Z,Z⟩
theorem Wk.f0 {aa:Value}{ab:LL}(m:Mem W G w (H))(ac:R2 G aa ab){y:(LL)}(hd:D.f0 ab=some y):
  Calls prog 66 #[(.agg #[aa])] w (Res W G H (λG' Ho v=>∃r0:Value,∃i0:Itm,Ho=[i0]∧v=(.agg #[r0])∧Ow R1 30 G' i0 r0 y)):=by
 refine Au (args:=[(.agg #[aa])]) (N:=25) [.cell 2 26] func66 Z Z (lb Z) Z λa f=> ?_
 unfold D.f0 at hd
 refine Ae (Bz (cs:=[aa]) m f Z Z Z λad w a m f=>AP (cs:=[sn]) zeroValue26 m f Z Z λae w a m f=>Ay ?_)
 have af:∀w,(Instr.build 26 #[]).run prog w= .ok (.agg #[sn]) w:=by intro w;simp[Instr.build,Instr.fill,Bb,A6,AT,A2,AQ,Bc,A7]
 refine Bv f Z Z af λa f=>AP (cs:=[sn]) zeroValue26 m f Z Z λag w a m f=>Am 0 0 (ds:=[sn]) m sizeOf26 f Z Z Z (Ak Z As) Z (lb Z) Z λw m=>Aa (Ag (Ae (Ac f Z λa f=>Aa ?_)))
 obtain⟨ah,m,ai⟩:=Ow.nil R1 30 m
 have⟨aj,ak,hd⟩:=bind_some hd
 refine AL (λa w=>∃al:LL,al=aj∧∃(am:GH) (an:Value) (ao:Itm),GLe G am∧Fr a 25 [(2,pb ae),(3,pb ag)]∧Mem W am w (ib ae 26 [sn]::ib ag 26 [an]::ao::H)∧Ow R1 30 am ao an al) ?_ ?_
 ·refine Ao (have m:=m.fr 1;have m:=m.fr 2;have m:=m.fr 3;AM (λap a w=>∃aq:Int,∃ar:LL,(aq,ar)=ap∧∃(au:GH) (av:Value) (aw:Itm),GLe G au∧Fr a 25 [(1,pb ad),(2,pb ae),(3,pb ag),(4,iv aq)]∧Mem W au w (ib ad 26 [aa]::ib ae 26 [sn]::ib ag 26 [av]::aw::H)∧Ow R1 30 au aw av ar) ak ⟨_,_,Z,_,sn,ah,gr,f.k Z,m,ai⟩ ?_)
  clear ak f m
  rintro ap ax ay az a w ⟨aq,ar,rfl,au,av,aw,aA,f,m,aB⟩
  refine have ac:=rd2 aA ac;Ag (Ae (Ab f Z λa f=>Bu underlying26 Z sizeOf24 f Z λa f=>AG 0 0 m BC f Z Z Z Z λa f=>Bg underlying24 f Z Z ac λa f=>Ah f Z Z AV λa f=>Aa ?_))
  rcases Af ay with⟨aC,ay⟩|⟨aC,ay⟩
  ·refine Al f Z aC (Ap (Ag (Ao (A5 9 AF (by kernel_rfl) m (BE 0 9 underlying26 Z sizeOf24 Z f Z λa f=>Bf 1 9 2 BC Z Z Z f Z λa f=>BE 2 9 underlying26 Z sizeOf24 Z f Z λa f=>Bf 3 9 0 BC Z Z Z f Z λa f=>Aj 4 9 Z f Z λa f=>Bd ay λaD aE ay=>Cd 5 9 T24 ac aE Z f Z Z λaF aG a aH aI f=>B3 6 9 BU aH Z f Z λa f=>Bh 7 Z λaJ w aK m aL aL=>have aI:=rd1 aK aI;have aB:=od3 aK aB;Bd ay λaM aN ay=>BP f Z call71 (Wk.j m aI aN) λaO aP aQ w aR m aS a f=>have aB:=od3 aR aB;Aa (aL aQ [aP] _ _ aR m (Bh 8 Z λaT w aU m aV aV=>have aS:=od1 aU aS;have aB:=od3 aU aB;?_)))))))
   obtain⟨aW,aX,m,aY⟩:=Ow.stamp (RI.mono _) aS m
   refine have aB:=od3 aX aB;A9 (R:=R1) (xs:=([aM]:LL)) (RSl.one _) m T24 f Z Z Z (by decide) (All2.cons aY (All2.nil _)) λaZ a0 w a m a1 f=>Aa (aV aW [aZ] _ _ aX m (AO λa2 w a3 m=>have a1:=od3 a3 a1;have aB:=od3 a3 aB;Bd ay λa4 a5 ay=>Bm (RSl.one _) 4 m aB Z T24 Z (by decide) f Z Z Z (Ow.src (j:=0) a1 m Z) a5 λa6 a7 w a m a8 f=>Bu underlying26 Z sizeOf24 f Z λa f=>Am 3 0 (ds:=[a7]) m sizeOf24 f Z Z (Ow.cells 4 m a8 Z) (Ak (Ow.one1 4 m a8 Z) As) Z (lb Z) Z λw m=>Aa (Aq (Ab f Z λa f=>Ah f Z Z Ax λa f=>Ac f Z λa f=>Aa (have m:=m.fr 4;have m:=m.fr 4;have m:=m.fr 4;have m:Mem W a2 w (ib ad 26 [aa]::ib ae 26 [sn]::ib ag 26 [a7]::a6::aZ::H):=m.fr 4;have m:=m.eraseAt 4;?_)))))
   obtain rfl:=sj ay
   exact⟨_,Z,_,_,Z,_,a7,a6,(gt aA (gt aK (gt aR (gt aU (gt aX a3))))),f.k Z,m,a8⟩
  ·refine Ai f Z aC (AK Z (have m:=m.fr 3;have m:=m.fr 3;have m:=m.fr 3;have m:=m.eraseAt 3;?_))
   obtain rfl:=sj ay
   obtain rfl:=az _ rfl
   exact⟨_,Z,_,av,aw,aA,f.k Z,m,aB⟩
 ·rintro a w ⟨al,rfl,am,an,ao,a9,f,m,ba⟩
  refine Ae (AA 1 0 (ds:=[an]) m AJ f Z Z Z Z Z λa f=>Am 0 0 (ds:=[an]) m sizeOf26 f Z Z Z (Ak (Ow.one1 2 m ba Z) As) Z (lb Z) Z λw m=>Aa (Ar (have bb:=Bi (P:=prog) 0 m AJ f (s:=2) rfl rfl rfl;have m:=m.fr 2;have m:=m.eraseAt 2;have m:=m.eraseAt 1;?_)))
  obtain rfl:=sj hd
  exact⟨[(.agg #[an])],⟨bb,trivial⟩,f.d,_,[ao],a9,m,_,_,Z,Z,ba⟩
theorem Wk.N0 {v0:Value}{x0:LI}{x1:Int}(m:Mem W G w (H))(h0:R1 G v0 x0){y:(LI)}(hd:D.N0 x0 x1=some y):
  Calls prog 67 #[v0,iv x1] w (Res W G H (λG' Ho v=>∃r0:Value,∃i0:Itm,Ho=[i0]∧r0=v∧Ow R0 2 G' i0 r0 y)):=by
 refine Au (args:=[v0,iv x1]) (N:=28) [.tmp 4] func67 Z Z (lb Z) Z λa f=> ?_
 unfold D.N0 at hd
 refine Ae (Ac f Z λa f=>Ay (A9 (R:=R0) (xs:=([]:LI)) (RI.one _) m T30 f Z Z Z (by decide) (All2.nil _) λaa ab w a m ac f=>Ac f Z λa f=>Aa (Ag (Ae (Ac f Z λa f=>Aa (Bd hd λad ae hd=> ?_))))))
 refine AL (λa w=>∃af:LI,af=ad∧∃(ag:GH) (ah:Value) (ai:Itm),GLe G ag∧Fr a 28 [(5,ah)]∧Mem W ag w (ai::H)∧Ow R0 2 ag ai ah af) ?_ ?_
 ·refine Ao (AM (λaj a w=>∃ak:LI,∃al:Int,(ak,al)=aj∧∃(am:GH) (an:Value) (ao:Itm),GLe G am∧Fr a 28 [(0,v0),(1,iv x1),(5,an),(6,iv al)]∧Mem W am w (ao::H)∧Ow R0 2 am ao an ak) ae ⟨_,_,Z,_,ab,aa,gr,f.k Z,m,ac⟩ ?_)
  clear ae f m
  rintro aj ap aq ar a w ⟨ak,al,rfl,am,an,ao,au,f,m,av⟩
  refine have h0:=rd1 au h0;Ag (Ae (Ab f Z λa f=>Ab f Z λa f=>Bg underlying30 f Z Z h0 λa f=>Ah f Z Z AV λa f=>Aa ?_))
  rcases Af aq with⟨aw,aq⟩|⟨aw,aq⟩
  ·refine Al f Z aw (Ap (Ag (Ao (Ae (Ab f Z λa f=>Ab f Z λa f=>Bd aq λax ay aq=>BI T30 f Z Z Z h0 ay λaz aA a aB aC f=> ?_)))))
   subst aC
   refine A3 m Pl2 f Z Z aB λa f=>Ab f Z λa f=>Ah f Z Z Dc λa f=>Aa ?_
   rcases Af aq with⟨aD,aq⟩|⟨aD,aq⟩
   ·refine Al f Z aD (Aq (Ab f Z λa f=>Ab f Z λa f=>Ab f Z λa f=>Bd aq λaE aF aq=>BI T30 f Z Z Z h0 aF λaG aH a aI aJ f=> ?_))
    subst aJ
    refine A3 m Pl2 f Z Z aI λa f=>A9 (R:=R0) (xs:=([aE]:LI)) (RI.one _) m T30 f Z Z Z (by decide) (All2.cons Z (All2.nil _)) λaK aL w a m aM f=>Bd aq λaN aO aq=>Bm (RI.one _) 1 m av Z T30 Z (by decide) f Z Z Z (Ow.src (j:=0) aM m Z) aO λaP aQ w a m aR f=>Ac f Z λa f=>Aa (Aq (Ab f Z λa f=>Ah f Z Z Ax λa f=>Ac f Z λa f=>Aa (have m:=m.fr 1;have m:=m.eraseAt 1;?_)))
    obtain rfl:=sj aq
    exact⟨_,Z,_,_,Z,_,aQ,aP,au,f.k Z,m,aR⟩
   ·refine Ai f Z aD (Ap (Aq (Ab f Z λa f=>Ah f Z Z Ax λa f=>Ac f Z λa f=>Aa ?_)))
    obtain rfl:=sj aq
    exact⟨_,Z,_,_,Z,_,an,ao,au,f.k Z,m,av⟩
  ·refine Ai f Z aw (AK Z ?_)
   obtain rfl:=sj aq
   obtain rfl:=ar _ rfl
   exact⟨_,Z,_,an,ao,au,f.k Z,m,av⟩
 ·rintro a w ⟨af,rfl,ag,ah,ai,aS,f,m,aT⟩
  refine Ae (Ab f Z λa f=>Ac f Z λa f=>Aa (Ar ?_))
  obtain rfl:=sj hd
  exact⟨[ah],f.g Z,f.d,_,[ai],aS,m,_,_,Z,Z,aT⟩
theorem Wk.Q {aa:Value}{ab:LL}{x1 x2:Int}(m:Mem W G w (H))(ac:R2 G aa ab){y:(LL)×Bool}(hd:D.Q ab x1 x2=some y):
  Calls prog 39 #[(.agg #[aa]),iv x1,iv x2] w (Res W G H (λG' Ho v=>∃r0:Value,∃i0:Itm,Ho=[i0]∧v= .tuple #[(.agg #[r0]),(.bool y.2)]∧Ow R1 30 G' i0 r0 y.1)):=by
 refine Au (args:=[(.agg #[aa]),iv x1,iv x2]) (N:=47) [.cell 6 26,.tmp 7] func39 Z Z (lb Z) Z λa f=> ?_
 unfold D.Q at hd
 refine Ae (Bz (cs:=[aa]) m f Z Z Z λad w a m f=>AP (cs:=[sn]) zeroValue26 m f Z Z λae w a m f=>Ac f Z λa f=>Aa (Ag (Ae (AA 1 0 (ds:=[aa]) m AJ f Z Z Z Z Z λa f=>Ab f Z λa f=>Ab f Z λa f=>Bd hd λaf ag hd=>Bj f Z call65 (Wk.I0 m ac ag) λah w ai m a f=>have ac:=rd2 ai ac;l_o f (BN (f.e Z)) λa f=>Ab f Z λa f=>Bd hd λaj ak hd=> ?_))))
 refine BF 6 (λa w=>∃al,GLe ah al∧Mem W al w (ib ae 26 [sn]::ib ad 26 [aa]::H)∧Fr a 47 [(0,(.agg #[aa])),(1,iv x1),(2,iv x2),(3,pb ad),(6,pb ae),(9,(.agg #[aa])),(10,iv x1),(11,iv x2),(12,(.bool af)),(13,(.bool (!af))),(14,(.bool (!af))),(20,(.bool aj))]) ?_ ?_
 ·rcases Af ak with⟨am,ak⟩|⟨am,ak⟩
  ·refine AC f am λa f=>AC f am λa f=>AC f am λa f=>AC f am λa f=>AC f am λa f=>l_o f (AY (f.e Z) am (f.e Z)) λa f=> ?_
   obtain rfl:=sj ak
   exact⟨_,gr,m,f.k Z⟩
  ·refine AB f am (AA 1 0 (ds:=[aa]) m AJ f Z Z Z Z Z λa f=>AB f am (Ab f Z λa f=>AB f am (Ab f Z λa f=>AB f am (Bd ak λan ao ak=>Bj f Z call28 (Wk.i m ac ao) λap w aq m a f=>AB f am (l_o f (BN (f.e Z)) λa f=>l_o f (AX (f.e Z) am (f.e Z)) λa f=> ?_)))))
   obtain rfl:=sj ak
   exact⟨_,aq,m,f.k Z⟩
 ·rintro a w ⟨al,ar,m,f⟩
  refine have ac:=rd2 ar ac;Aa ?_
  rcases Af hd with⟨au,hd⟩|⟨au,hd⟩
  ·refine Al f Z au (Ae ?_)
   have av:∀w,(Instr.build 26 #[]).run prog w= .ok (.agg #[sn]) w:=by intro w;simp[Instr.build,Instr.fill,Bb,A6,AT,A2,AQ,Bc,A7]
   refine Bv f Z Z av λa f=>Am 0 0 (ds:=[sn]) m sizeOf26 f Z Z Z (Ak Z As) Z (lb Z) Z λw m=>Ac f Z λa f=>Aa (Ar ?_)
   obtain⟨aw,m,ax⟩:=Ow.nil R1 30 m
   refine have ay:=Bi (P:=prog) 1 m AJ f (s:=6) rfl rfl rfl;have m:=m.eraseAt 2;have m:=m.eraseAt 1;?_
   obtain rfl:=sj hd
   exact⟨[(.agg #[sn]),(.bool false)],⟨ay,f.get _ _ Z,trivial⟩,f.d,_,[aw],(gt ai ar),m,_,_,Z,Z,ax⟩
  ·refine Ai f Z au (Ap (Ae (AA 1 0 (ds:=[aa]) m AJ f Z Z Z Z Z λa f=>Bd hd λaz aA hd=>AI f Z call66 (Wk.f0 m ac aA) λaB aC aD w aE m aF a f=> ?_)))
   obtain⟨aG,aH,rfl,rfl,aI⟩:=aF
   refine AP (cs:=[sn]) zeroValue26 m f Z Z λaJ w a m f=>Am 0 0 (ds:=[aG]) m sizeOf26 f Z Z Z (Ak (Ow.one1 1 m aI Z) As) Z (lb Z) Z λw m=>Aa (Ag (A5 11 AF (by kernel_rfl) m (BE 0 11 underlying26 Z sizeOf24 Z f Z λa f=>Bf 1 11 0 BC Z Z Z f Z λa f=>Aj 2 11 Z f Z λa f=>BE 3 11 underlying26 Z sizeOf24 Z f Z λa f=>Bf 4 11 0 BC Z Z Z f Z λa f=>Aj 5 11 Z f Z λa f=>Bd hd λaK aL hd=>A4 6 11 1 m aI T24 aL Z f Z Z λaM a aN f=>Bk 7 11 1 aI BU aN aL Z f Z λaO a aP f=>Aj 8 11 Z f Z λa f=>Bh 9 Z λaQ w aR m aS aS=>have aP:=rd1 aR aP;have aI:=od3 aR aI;Bd hd λaT aU hd=>BP f Z call67 (Wk.N0 m aP aU) λaV aW aX w aY m aZ a f=>have aI:=od3 aY aI;Aa (aS aX [aW] _ _ aY m (Bd hd λa0 a1 hd=>A4 10 11 2 m aI T24 a1 Z f Z Z λa2 a a3 f=>AO λa4 w a5 m=>have aZ:=od1 a5 aZ;have aI:=od3 a5 aI;?_)))))
   obtain⟨a6,a7,m,a8⟩:=Ow.stamp (RI.mono _) aZ m
   refine have aI:=od3 a7 aI;AR 1 m aI Z sizeOf30 f Z Z a3 a1 a8.cells a8.one1 a8 λa9 w m ba=>Aa (Ag (A5 11 AF (by kernel_rfl) m (BE 0 11 underlying26 Z sizeOf24 Z f Z λa f=>Bf 1 11 0 BC Z Z Z f Z λa f=>Aj 2 11 Z f Z λa f=>BE 3 11 underlying26 Z sizeOf24 Z f Z λa f=>Bf 4 11 0 BC Z Z Z f Z λa f=>Aj 5 11 Z f Z λa f=>Bd hd λbb bc hd=>A4 6 11 1 m ba T24 bc Z f Z Z λbd a be f=>Bk 7 11 1 ba BU be bc Z f Z λbf a bg f=>Aj 8 11 Z f Z λa f=>Bh 9 Z λbh w bi m bj bj=>have bg:=rd1 bi bg;have ba:=od3 bi ba;Bd hd λbk bl hd=>BP f Z call67 (Wk.N0 m bg bl) λbm bn bo w bp m bq a f=>have ba:=od3 bp ba;Aa (bj bo [bn] _ _ bp m (Bd hd λbr bs hd=>A4 10 11 2 m ba T24 bs Z f Z Z λbt a bu f=>AO λbv w bw m=>have bq:=od1 bw bq;have ba:=od3 bw ba;?_)))))
   obtain⟨bx,bz,m,bA⟩:=Ow.stamp (RI.mono _) bq m
   refine have ba:=od3 bz ba;AR 1 m ba Z sizeOf30 f Z Z bu bs bA.cells bA.one1 bA λbB w m bC=>Ay (AA 0 0 (ds:=[aG]) m AJ f Z Z Z Z Z λa f=>Am 2 0 (ds:=[aG]) m sizeOf26 f Z Z Z (Ak (Ow.one1 1 m bC Z) As) Z (lb Z) Z λw m=>Ac f Z λa f=>Aa (Ar (have bD:=Bi (P:=prog) 2 m AJ f (s:=6) rfl rfl rfl;have m:=m.fr 1;have m:=m.eraseAt 3;have m:=m.eraseAt 2;have m:=m.eraseAt 1;?_)))
   obtain rfl:=sj hd
   exact⟨[(.agg #[aG]),(.bool true)],⟨bD,f.get _ _ Z,trivial⟩,f.d,_,[bB],(gt ai (gt ar (gt aE (gt aR (gt aY (gt a5 (gt a7 (gt bi (gt bp (gt bw bz)))))))))),m,_,_,Z,Z,bC⟩
theorem Wk.V0 {x0 x1:Int}(m:Mem W G w (H)){y:Int}(hd:D.V0 x0 x1=some y):
  Calls prog 64 #[iv x0,iv x1] w (Res W G H (λ_ Ho v=>Ho=[]∧v=(iv y))):=by
 refine Au (args:=[iv x0,iv x1]) (N:=10) [.tmp 4] func64 Z Z (lb Z) Z λa f=> ?_
 unfold D.V0 at hd
 refine Ae (Ac f Z λa f=>Aa (Ag (Ae (Ab f Z λa f=>Ab f Z λa f=>Ah f Z Z Ci λa f=>Aa ?_))))
 rcases Af hd with⟨aa,hd⟩|⟨aa,hd⟩
 ·refine Al f Z aa (Ae (Ab f Z λa f=>Ac f Z λa f=>Aa (Ar ?_)))
  obtain rfl:=sj hd
  exact⟨[iv x0],f.g Z,f.d,_,[],gr,m,Z,Z⟩
 ·refine Ai f Z aa (Ap (Ae (Ab f Z λa f=>Ac f Z λa f=>Aa (Ar ?_))))
  obtain rfl:=sj hd
  exact⟨[iv x1],f.g Z,f.d,_,[],gr,m,Z,Z⟩
theorem Wk.K1 {aa v1:Value}{ab:LL}{x1:LI}(m:Mem W G w (H))(ac:R2 G aa ab)(h1:R1 G v1 x1){y:Bool}(hd:D.K1 ab x1=some y):
  Calls prog 96 #[(.agg #[aa]),v1] w (Res W G H (λ_ Ho v=>Ho=[]∧v=(.bool y))):=by
 refine Au (args:=[(.agg #[aa]),v1]) (N:=13) [.tmp 4] func96 Z Z (lb Z) Z λa f=> ?_
 unfold D.K1 at hd
 refine Ae (Bz (cs:=[aa]) m f Z Z Z λad w a m f=>Ac f Z λa f=>Ay (AA 0 0 (ds:=[aa]) m AJ f Z Z Z Z Z λa f=>Bd hd λae af hd=>Bj f Z call6 (Wk.q m ac af) λag w ah m a f=>have ac:=rd2 ah ac;have h1:=rd1 ah h1;Ab f Z λa f=>Bd hd λai aj hd=> ?_))
 refine BF 5 (λa w=>∃ak,GLe ag ak∧Mem W ak w (ib ad 26 [aa]::H)∧Fr a 13 [(0,(.agg #[aa])),(1,v1),(2,pb ad),(5,(.agg #[aa])),(6,(.bool ae)),(7,(.bool ae)),(12,(.bool ai))]) ?_ ?_
 ·rcases Af aj with⟨al,aj⟩|⟨al,aj⟩
  ·refine AB f al (Ab f Z λa f=>AB f al (AA 0 0 (ds:=[aa]) m AJ f Z Z Z Z Z λa f=>AB f al (Bd aj λam an aj=>Bj f Z call17 (Wk.c m ac an) λao w ap m a f=>have h1:=rd1 ap h1;AB f al (Bd aj λaq ar aj=>Bj f Z call19 (Wk.Q0 m h1 ar) λau w av m a f=>l_o f (AY (f.e Z) al (f.e Z)) λa f=> ?_))))
   obtain rfl:=sj aj
   exact⟨_,(gt ap av),m,f.k Z⟩
  ·refine AC f al λa f=>AC f al λa f=>AC f al λa f=>AC f al λa f=>l_o f (AX (f.e Z) al (f.e Z)) λa f=> ?_
   obtain rfl:=sj aj
   exact⟨_,gr,m,f.k Z⟩
 ·rintro a w ⟨ak,aw,m,f⟩
  refine Ac f Z λa f=>Aa (Ar (have m:=m.dp 1;?_))
  obtain rfl:=sj hd
  exact⟨[(.bool ai)],f.g Z,f.d,_,[],(gt ah aw),m,Z,Z⟩
theorem Wk.K0 {aa v1:Value}{ab:LL}{x1:LI}(m:Mem W G w (H))(ac:R2 G aa ab)(h1:R1 G v1 x1){y:(LL)×Bool}(hd:D.K0 ab x1=some y):
  Calls prog 62 #[(.agg #[aa]),v1] w (Res W G H (λG' Ho v=>∃r0:Value,∃i0:Itm,Ho=[i0]∧v= .tuple #[(.agg #[r0]),(.bool y.2)]∧Ow R1 30 G' i0 r0 y.1)):=by
 refine Au (args:=[(.agg #[aa]),v1]) (N:=41) [.cell 4 26,.tmp 5] func62 Z Z (lb Z) Z λa f=> ?_
 unfold D.K0 at hd
 refine Ae (Bz (cs:=[aa]) m f Z Z Z λad w a m f=>AP (cs:=[sn]) zeroValue26 m f Z Z λae w a m f=>Ac f Z λa f=>Aa (Ag (Ae (AA 1 0 (ds:=[aa]) m AJ f Z Z Z Z Z λa f=>Ab f Z λa f=>Bd hd λaf ag hd=>Bj f Z call96 (Wk.K1 m ac h1 ag) λah w ai m a f=>have ac:=rd2 ai ac;have h1:=rd1 ai h1;l_o f (BN (f.e Z)) λa f=>Ab f Z λa f=>Bd hd λaj ak hd=> ?_))))
 refine BF 4 (λa w=>∃al,GLe ah al∧Mem W al w (ib ae 26 [sn]::ib ad 26 [aa]::H)∧Fr a 41 [(0,(.agg #[aa])),(1,v1),(2,pb ad),(4,pb ae),(8,(.agg #[aa])),(9,v1),(10,(.bool af)),(11,(.bool (!af))),(12,(.bool (!af))),(16,(.bool aj))]) ?_ ?_
 ·rcases Af ak with⟨am,ak⟩|⟨am,ak⟩
  ·refine AC f am λa f=>AC f am λa f=>AC f am λa f=>l_o f (AY (f.e Z) am (f.e Z)) λa f=> ?_
   obtain rfl:=sj ak
   exact⟨_,gr,m,f.k Z⟩
  ·refine AB f am (AA 1 0 (ds:=[aa]) m AJ f Z Z Z Z Z λa f=>AB f am (Bd ak λan ao ak=>Bj f Z call17 (Wk.c m ac ao) λap w aq m a f=>AB f am (Ah f Z Z BA λa f=>l_o f (AX (f.e Z) am (f.e Z)) λa f=> ?_)))
   obtain rfl:=sj ak
   exact⟨_,aq,m,f.k Z⟩
 ·rintro a w ⟨al,ar,m,f⟩
  refine have ac:=rd2 ar ac;have h1:=rd1 ar h1;Aa ?_
  rcases Af hd with⟨au,hd⟩|⟨au,hd⟩
  ·refine Al f Z au (Ae ?_)
   have av:∀w,(Instr.build 26 #[]).run prog w= .ok (.agg #[sn]) w:=by intro w;simp[Instr.build,Instr.fill,Bb,A6,AT,A2,AQ,Bc,A7]
   refine Bv f Z Z av λa f=>Am 0 0 (ds:=[sn]) m sizeOf26 f Z Z Z (Ak Z As) Z (lb Z) Z λw m=>Ac f Z λa f=>Aa (Ar ?_)
   obtain⟨aw,m,ax⟩:=Ow.nil R1 30 m
   refine have ay:=Bi (P:=prog) 1 m AJ f (s:=4) rfl rfl rfl;have m:=m.eraseAt 2;have m:=m.eraseAt 1;?_
   obtain rfl:=sj hd
   exact⟨[(.agg #[sn]),(.bool false)],⟨ay,f.get _ _ Z,trivial⟩,f.d,_,[aw],(gt ai ar),m,_,_,Z,Z,ax⟩
  ·refine Ai f Z au (Ap (Ae (AA 1 0 (ds:=[aa]) m AJ f Z Z Z Z Z λa f=>Bd hd λaz aA hd=>AI f Z call66 (Wk.f0 m ac aA) λaB aC aD w aE m aF a f=> ?_)))
   obtain⟨aG,aH,rfl,rfl,aI⟩:=aF
   refine have ac:=rd2 aE ac;have h1:=rd1 aE h1;AP (cs:=[sn]) zeroValue26 m f Z Z λaJ w a m f=>Am 0 0 (ds:=[aG]) m sizeOf26 f Z Z Z (Ak (Ow.one1 1 m aI Z) As) Z (lb Z) Z λw m=>Ay (Bu underlying26 Z sizeOf24 f Z λa f=>AG 0 0 m BC f Z Z Z Z λa f=>A9 (R:=R0) (xs:=([]:LI)) (RI.one _) m T30 f Z Z Z (by decide) (All2.nil _) λaK aL w a m aM f=> ?_)
   obtain⟨aN,aO,m,aP⟩:=Ow.stamp (RI.mono _) aM m
   refine have ac:=rd2 aO ac;have h1:=rd1 aO h1;have aI:=od3 aO aI;A9 (R:=R1) (xs:=([([]:LI)]:LL)) (RSl.one _) m T24 f Z Z Z (by decide) (All2.cons aP (All2.nil _)) λaQ aR w a m aS f=>Bd hd λaT aU hd=>Bm (RSl.one _) 2 m aI Z T24 Z (by decide) f Z Z Z (Ow.src (j:=0) aS m Z) aU λaV aW w a m aX f=>Bu underlying26 Z sizeOf24 f Z λa f=>Am 1 0 (ds:=[aW]) m sizeOf24 f Z Z (Ow.cells 2 m aX Z) (Ak (Ow.one1 2 m aX Z) As) Z (lb Z) Z λw m=>Aa (Ag (Ae (Ac f Z λa f=>Aa (Bd hd λaY aZ hd=> ?_))))
   refine AL (λa w=>∃a0:LL,a0=aY∧∃(a1:GH) (a2:Itm),GLe aN a1∧Fr a 41 [(4,pb ae),(6,pb aJ)]∧Mem W a1 w (ib ae 26 [sn]::ib aJ 26 [aW]::a2::H)∧Ow R1 30 a1 a2 aW a0) ?_ ?_
   ·refine Ao (have m:=m.fr 2;have m:=m.fr 2;have m:=m.fr 3;have m:Mem W aN w (ib ad 26 [aa]::ib ae 26 [sn]::ib aJ 26 [aW]::aV::aQ::H):=m.fr 4;have m:=m.eraseAt 4;AM (λa3 a w=>∃a4:Int,∃a5:LL,(a4,a5)=a3∧∃(a6:GH) (a7:Itm),GLe aN a6∧Fr a 41 [(1,v1),(2,pb ad),(4,pb ae),(6,pb aJ),(7,iv a4)]∧Mem W a6 w (ib ad 26 [aa]::ib ae 26 [sn]::ib aJ 26 [aW]::a7::H)∧Ow R1 30 a6 a7 aW a5) aZ ⟨_,_,Z,_,aV,gr,f.k Z,m,aX⟩ ?_)
    clear aZ f m
    rintro a3 a8 a9 ba a w ⟨a4,a5,rfl,a6,a7,bb,f,m,bc⟩
    refine have h1:=rd1 bb h1;have ac:=rd2 bb ac;Ag (Ae (Ab f Z λa f=>Ab f Z λa f=>Bg underlying30 f Z Z h1 λa f=>Ah f Z Z AV λa f=>Aa ?_))
    rcases Af a9 with⟨bd,a9⟩|⟨bd,a9⟩
    ·refine Al f Z bd (Ap (Ag (Ao (A5 7 AF (by kernel_rfl) m (Cg (i:=0) (ds:=[aW]) 7 2 AJ Z Z Z Z (by kernel_rfl) Z f Z Z Z λa f=>Aj 1 7 Z f Z λa f=>Aj 2 7 Z f Z λa f=>Bd a9 λbe bf a9=>Cd 3 7 T30 h1 bf Z f Z Z λbg bh a bi bj f=> ?_)))))
     subst bj
     refine B3 4 7 Pl2 bi Z f Z λa f=>Cg (i:=5) (ds:=[aa]) 7 0 AJ Z Z Z Z (by kernel_rfl) Z f Z Z Z λa f=>Bd a9 λbk bl a9=>BH (i:=6) 7 Z (by kernel_rfl) Z f Z Z Z call17 (λ_ _ w bm m=>Wk.c m (rd2 bm ac) bl) λa f=>AO λbn w bo m=>have bc:=od3 bo bc;have m:=m.fr 3;Bd a9 λbp bq a9=>AI f Z call60 (Wk.k m bc bq) λbr bs bt w bu m bv a f=> ?_
     obtain⟨bw,rfl,rfl,bx⟩:=bv
     refine Am 3 0 (ds:=[aW]) m sizeOf26 f Z Z Z (Ak (Ow.one1 0 m bx Z) As) Z (lb Z) Z λw m=>Aa (Aq (Ab f Z λa f=>Ah f Z Z Ax λa f=>Ac f Z λa f=>Aa (have m:=m.fr 3;have m:=m.fr 3;have m:=m.fr 3;?_)))
     obtain rfl:=sj a9
     exact⟨_,Z,_,_,Z,_,bw,(gt bb (gt bo bu)),f.k Z,m,bx⟩
    ·refine Ai f Z bd (AK Z (have m:=m.fr 3;have m:=m.fr 3;have m:=m.fr 3;have m:=m.eraseAt 3;?_))
     obtain rfl:=sj a9
     obtain rfl:=ba _ rfl
     exact⟨_,Z,_,a7,bb,f.k Z,m,bc⟩
   ·rintro a w ⟨a0,rfl,a1,a2,bz,f,m,bA⟩
    refine Ae (AA 1 0 (ds:=[aW]) m AJ f Z Z Z Z Z λa f=>Am 0 0 (ds:=[aW]) m sizeOf26 f Z Z Z (Ak (Ow.one1 2 m bA Z) As) Z (lb Z) Z λw m=>Ac f Z λa f=>Aa (Ar (have bB:=Bi (P:=prog) 0 m AJ f (s:=4) rfl rfl rfl;have m:=m.fr 2;have m:=m.eraseAt 2;have m:=m.eraseAt 1;?_)))
    obtain rfl:=sj hd
    exact⟨[(.agg #[aW]),(.bool true)],⟨bB,f.get _ _ Z,trivial⟩,f.d,_,[a2],(gt ai (gt ar (gt aE (gt aO bz)))),m,_,_,Z,Z,bA⟩
theorem Wk.K {aa:Value}{ab:LL}{x1 x2:Int}(m:Mem W G w (H))(ac:R2 G aa ab){y:(LL)×Bool}(hd:D.b2 ab x1 x2=some y):
  Calls prog 37 #[(.agg #[aa]),iv x1,iv x2] w (Res W G H (λG' Ho v=>∃r0:Value,∃i0:Itm,Ho=[i0]∧v= .tuple #[(.agg #[r0]),(.bool y.2)]∧Ow R1 30 G' i0 r0 y.1)):=by
 refine Au (args:=[(.agg #[aa]),iv x1,iv x2]) (N:=41) [.cell 6 26,.tmp 7] func37 Z Z (lb Z) Z λa f=> ?_
 unfold D.b2 at hd
 refine Ae (Bz (cs:=[aa]) m f Z Z Z λad w a m f=>AP (cs:=[sn]) zeroValue26 m f Z Z λae w a m f=>Ac f Z λa f=>Ay (AA 1 0 (ds:=[aa]) m AJ f Z Z Z Z Z λa f=>Bd hd λaf ag hd=>Bj f Z call17 (Wk.c m ac ag) λah w ai m a f=>have ac:=rd2 ai ac;Ac f Z λa f=>Aa (Ag (Ae (AA 1 0 (ds:=[aa]) m AJ f Z Z Z Z Z λa f=>Ab f Z λa f=>Ab f Z λa f=>Bd hd λaj ak hd=>Bj f Z call10 (Wk.E0 m ac ak) λal w am m a f=>have ac:=rd2 am ac;l_o f (BN (f.e Z)) λa f=>Ab f Z λa f=> ?_)))))
 refine BF 3 (λa w=>∃an,GLe al an∧Mem W an w (ib ae 26 [sn]::ib ad 26 [aa]::H)∧Fr a 41 [(0,(.agg #[aa])),(1,iv x1),(2,iv x2),(3,pb ad),(6,pb ae),(8,iv af),(13,(.agg #[aa])),(14,iv x1),(15,iv x2),(16,(.bool aj)),(17,(.bool (!aj))),(18,(.bool (!aj))),(21,(.bool ((!aj)||(decide ((16:Int)≤af)))))]) ?_ ?_
 ·rcases Bool.eq_false_or_eq_true (!aj) with ao|ao
  ·exact AC f ao λa f=>AC f ao λa f=>l_o f (AY (f.e Z) ao (f.e Z)) λa f=>⟨_,gr,m,f.weak ⟨Z,Z,Z,Z,Z,Z,Z,Z,Z,Z,Z,Z,by rw[ao];rfl,trivial⟩⟩
  ·exact AB f ao (Ab f Z λa f=>AB f ao (Ah f Z Z CC λa f=>l_o f (AX (f.e Z) ao (f.e Z)) λa f=>⟨_,gr,m,f.weak ⟨Z,Z,Z,Z,Z,Z,Z,Z,Z,Z,Z,Z,by rw[ao];rfl,trivial⟩⟩))
 ·rintro a w ⟨an,ap,m,f⟩
  refine have ac:=rd2 ap ac;Aa ?_
  rcases Af hd with⟨aq,hd⟩|⟨aq,hd⟩
  ·refine Al f Z aq (Ae ?_)
   have ar:∀w,(Instr.build 26 #[]).run prog w= .ok (.agg #[sn]) w:=by intro w;simp[Instr.build,Instr.fill,Bb,A6,AT,A2,AQ,Bc,A7]
   refine Bv f Z Z ar λa f=>Am 0 0 (ds:=[sn]) m sizeOf26 f Z Z Z (Ak Z As) Z (lb Z) Z λw m=>Ac f Z λa f=>Aa (Ar ?_)
   obtain⟨au,m,av⟩:=Ow.nil R1 30 m
   refine have aw:=Bi (P:=prog) 1 m AJ f (s:=6) rfl rfl rfl;have m:=m.eraseAt 2;have m:=m.eraseAt 1;?_
   obtain rfl:=sj hd
   exact⟨[(.agg #[sn]),(.bool false)],⟨aw,f.get _ _ Z,trivial⟩,f.d,_,[au],(gt ai (gt am ap)),m,_,_,Z,Z,av⟩
  ·refine Ai f Z aq (Ap (Ae (AA 1 0 (ds:=[aa]) m AJ f Z Z Z Z Z λa f=>Ab f Z λa f=>Ab f Z λa f=>Bd hd λax ay hd=>AI f Z call39 (Wk.Q m ac ay) λaz aA aB w aC m aD a f=> ?_)))
   obtain⟨aE,aF,rfl,rfl,aG⟩:=aD
   refine Ab f Z λa f=>l_o f (AE (f.e Z) Z) λa f=>l_o f (AE (f.e Z) Z) λa f=>AP (cs:=[sn]) zeroValue26 m f Z Z λaH w a m f=>Am 0 0 (ds:=[aE]) m sizeOf26 f Z Z Z (Ak (Ow.one1 1 m aG Z) As) Z (lb Z) Z λw m=>Ac f Z λa f=>Aa (Ag (Bd hd λaI aJ hd=> ?_))
   refine AL (λa w=>∃aK:Bool,∃aL:LL,(aK,aL)=aI∧∃(aM:GH) (aN:Value) (aO:Itm),GLe aA aM∧Fr a 41 [(6,pb ae),(7,(.bool aK))]∧Mem W aM w (ib ae 26 [aN]::aO::H)∧Ow R1 30 aM aO aN aL) ?_ ?_
   ·refine have m:=m.fr 1;DY [aF,ib aH 26 [aE]] (ib ae 26 [sn]::ib ad 26 [aa]::H) 11 AF (by kernel_rfl) m (Aj 1 11 Z f Z λa f=>Aj 2 11 Z f Z λa f=>Bd aJ λaP aQ aJ=>BH (i:=3) 11 Z (by kernel_rfl) Z f Z Z Z call63 (λ_ _ w aR m=>Wk.V m aQ) λa f=>Aj 4 11 Z f Z λa f=>Aj 5 11 Z f Z λa f=>Bd aJ λaS aT aJ=>BH (i:=6) 11 Z (by kernel_rfl) Z f Z Z Z call64 (λ_ _ w aU m=>Wk.V0 m aT) λa f=>CD (i:=0) (j:=7) (l1:= #[true,true,true,true,true,true,true,false,false,false,false,false,false]) (l2:= #[false,true,true,true,true,true,true,true,false,false,false,false,false]) Z Z (by kernel_rfl) Z Z ?_ ?_)
    ·intro aV w aW m aX aX
     refine have aG:=od3 aW aG;AA 1 0 (ds:=[aE]) m AJ f Z Z Z Z Z λa f=>Aa (aX aV [aF,ib aH 26 [aE]] _ _ gr m (Bh 7 Z λaY w aZ m a0 a0=>have aG:=od3 aZ aG;A9 (R:=R0) (xs:=([aP,aS]:LI)) (RI.one _) m T30 f Z Z Z (by decide) (All2.cons Z (All2.cons Z (All2.nil _))) λa1 a2 w a m a3 f=>Aa (a0 aY [a1,aF,ib aH 26 [aE]] _ _ gr m (Bh 8 Z λa4 w a5 m a6 a6=>have a3:=od1 a5 a3;have aG:=od3 a5 aG;have m:=m.fr 1;?_))))
     obtain⟨a7,a8,m,a9⟩:=Ow.stamp (RSl.mono (RI.mono _)) aG m
     have a3:=od1 a8 a3
     obtain⟨ba,bb,m,bc⟩:=Ow.stamp (RI.mono _) a3 m
     refine have a9:=rd2 bb a9;Bd aJ λbd be aJ=>AI f Z call62 (Wk.K0 m a9 bc be) λbf bg bh w bi m bj a f=> ?_
     obtain⟨bk,bl,rfl,rfl,bm⟩:=bj
     refine Aa (a6 bg [bl,ib aH 26 [aE]] _ _ (gt a8 (gt bb bi)) m (q_p 9 11 Z f (λ_=>AE (f.e Z) Z) λa f=>q_p 10 11 Z f (λ_=>AE (f.e Z) Z) λa f=>AO λbn w bo m=>have bm:=od3 bo bm;Am 2 0 (ds:=[bk]) m sizeOf26 f Z Z Z (Ak (Ow.one1 0 m bm Z) As) Z (lb Z) Z λw m=>Ac f Z λa f=>Aa (have m:=m.fr 2;have m:=m.eraseAt 3;have m:=m.eraseAt 2;?_)))
     obtain rfl:=sj aJ
     exact⟨_,_,Z,_,bk,bl,(gt aW (gt aZ (gt a5 (gt a8 (gt bb (gt bi bo)))))),f.k Z,m,bm⟩
    ·intro aY w aZ m a0 a0
     refine Bd aJ λbd be aJ=>have aG:=od3 aZ aG;A9 (R:=R0) (xs:=([aP,aS]:LI)) (RI.one _) m T30 f Z Z Z (by decide) (All2.cons Z (All2.cons Z (All2.nil _))) λa1 a2 w a m a3 f=>Aa (a0 aY [a1,aF,ib aH 26 [aE]] _ _ gr m (Bh 0 Z λaV w aW m aX aX=>have a3:=od1 aW a3;have aG:=od3 aW aG;AA 2 0 (ds:=[aE]) m AJ f Z Z Z Z Z λa f=>Aa (aX aV [a1,aF,ib aH 26 [aE]] _ _ gr m (Bh 8 Z λa4 w a5 m a6 a6=>have a3:=od1 a5 a3;have aG:=od3 a5 aG;have m:=m.fr 1;?_))))
     obtain⟨a7,a8,m,a9⟩:=Ow.stamp (RSl.mono (RI.mono _)) aG m
     have a3:=od1 a8 a3
     obtain⟨ba,bb,m,bc⟩:=Ow.stamp (RI.mono _) a3 m
     refine have a9:=rd2 bb a9;AI f Z call62 (Wk.K0 m a9 bc be) λbf bg bh w bi m bj a f=> ?_
     obtain⟨bk,bl,rfl,rfl,bm⟩:=bj
     refine Aa (a6 bg [bl,ib aH 26 [aE]] _ _ (gt a8 (gt bb bi)) m (q_p 9 11 Z f (λ_=>AE (f.e Z) Z) λa f=>q_p 10 11 Z f (λ_=>AE (f.e Z) Z) λa f=>AO λbn w bo m=>have bm:=od3 bo bm;Am 2 0 (ds:=[bk]) m sizeOf26 f Z Z Z (Ak (Ow.one1 0 m bm Z) As) Z (lb Z) Z λw m=>Ac f Z λa f=>Aa (have m:=m.fr 2;have m:=m.eraseAt 3;have m:=m.eraseAt 2;?_)))
     obtain rfl:=sj aJ
     exact⟨_,_,Z,_,bk,bl,(gt aZ (gt aW (gt a5 (gt a8 (gt bb (gt bi bo)))))),f.k Z,m,bm⟩
   ·rintro a w ⟨aK,aL,rfl,aM,aN,aO,bp,f,m,bq⟩
    refine Ar (have br:=Bi (P:=prog) 0 m AJ f (s:=6) rfl rfl rfl;have m:=m.fr 1;have m:=m.eraseAt 1;?_)
    obtain rfl:=sj hd
    exact⟨[(.agg #[aN]),(.bool aK)],⟨br,f.get _ _ Z,trivial⟩,f.d,_,[aO],(gt ai (gt am (gt ap (gt aC bp)))),m,_,_,Z,Z,bq⟩
theorem Wk.T0 {aa:Value}{ab:LL}{x1 x2:Int}(m:Mem W G w (H))(ac:R2 G aa ab){y:(LL)×Bool}(hd:D.T0 ab x1 x2=some y):
  Calls prog 38 #[(.agg #[aa]),iv x1,iv x2] w (Res W G H (λG' Ho v=>∃r0:Value,∃i0:Itm,Ho=[i0]∧v= .tuple #[(.agg #[r0]),(.bool y.2)]∧Ow R1 30 G' i0 r0 y.1)):=by
 refine Au (args:=[(.agg #[aa]),iv x1,iv x2]) (N:=25) [.cell 6 26,.tmp 7] func38 Z Z (lb Z) Z λa f=> ?_
 unfold D.T0 at hd
 refine Ae (Bz (cs:=[aa]) m f Z Z Z λad w a m f=>AP (cs:=[sn]) zeroValue26 m f Z Z λae w a m f=>Ac f Z λa f=>Aa (Ag (Ae (AA 1 0 (ds:=[aa]) m AJ f Z Z Z Z Z λa f=>Ab f Z λa f=>Ab f Z λa f=>Bd hd λaf ag hd=>Bj f Z call65 (Wk.I0 m ac ag) λah w ai m a f=>have ac:=rd2 ai ac;l_o f (BN (f.e Z)) λa f=>Ab f Z λa f=>Bd hd λaj ak hd=> ?_))))
 refine BF 5 (λa w=>∃al,GLe ah al∧Mem W al w (ib ae 26 [sn]::ib ad 26 [aa]::H)∧Fr a 25 [(0,(.agg #[aa])),(1,iv x1),(2,iv x2),(3,pb ad),(6,pb ae),(8,(.agg #[aa])),(9,iv x1),(10,iv x2),(11,(.bool af)),(12,(.bool (!af))),(13,(.bool (!af))),(18,(.bool aj))]) ?_ ?_
 ·rcases Af ak with⟨am,ak⟩|⟨am,ak⟩
  ·refine AC f am λa f=>AC f am λa f=>AC f am λa f=>AC f am λa f=>l_o f (AY (f.e Z) am (f.e Z)) λa f=> ?_
   obtain rfl:=sj ak
   exact⟨_,gr,m,f.k Z⟩
  ·refine AB f am (AA 1 0 (ds:=[aa]) m AJ f Z Z Z Z Z λa f=>AB f am (Ab f Z λa f=>AB f am (Ab f Z λa f=>AB f am (Bd ak λan ao ak=>Bj f Z call28 (Wk.i m ac ao) λap w aq m a f=>l_o f (AX (f.e Z) am (f.e Z)) λa f=> ?_))))
   obtain rfl:=sj ak
   exact⟨_,aq,m,f.k Z⟩
 ·rintro a w ⟨al,ar,m,f⟩
  refine have ac:=rd2 ar ac;Aa ?_
  rcases Af hd with⟨au,hd⟩|⟨au,hd⟩
  ·refine Al f Z au (Ae ?_)
   have av:∀w,(Instr.build 26 #[]).run prog w= .ok (.agg #[sn]) w:=by intro w;simp[Instr.build,Instr.fill,Bb,A6,AT,A2,AQ,Bc,A7]
   refine Bv f Z Z av λa f=>Am 0 0 (ds:=[sn]) m sizeOf26 f Z Z Z (Ak Z As) Z (lb Z) Z λw m=>Ac f Z λa f=>Aa (Ar ?_)
   obtain⟨aw,m,ax⟩:=Ow.nil R1 30 m
   refine have ay:=Bi (P:=prog) 1 m AJ f (s:=6) rfl rfl rfl;have m:=m.eraseAt 2;have m:=m.eraseAt 1;?_
   obtain rfl:=sj hd
   exact⟨[(.agg #[sn]),(.bool false)],⟨ay,f.get _ _ Z,trivial⟩,f.d,_,[aw],(gt ai ar),m,_,_,Z,Z,ax⟩
  ·refine Ai f Z au (Ap (Ae (AA 1 0 (ds:=[aa]) m AJ f Z Z Z Z Z λa f=>Bd hd λaz aA hd=>AI f Z call66 (Wk.f0 m ac aA) λaB aC aD w aE m aF a f=> ?_)))
   obtain⟨aG,aH,rfl,rfl,aI⟩:=aF
   refine Ab f Z λa f=>Ab f Z λa f=>Bd hd λaJ aK hd=>AI f Z call60 (Wk.k m aI aK) λaL aM aN w aO m aP a f=> ?_
   obtain⟨aQ,rfl,rfl,aR⟩:=aP
   refine Am 1 0 (ds:=[aG]) m sizeOf26 f Z Z Z (Ak (Ow.one1 0 m aR Z) As) Z (lb Z) Z λw m=>Ac f Z λa f=>Aa (Ar (have aS:=Bi (P:=prog) 1 m AJ f (s:=6) rfl rfl rfl;have m:=m.eraseAt 2;have m:=m.eraseAt 1;?_))
   obtain rfl:=sj hd
   exact⟨[(.agg #[aG]),(.bool true)],⟨aS,f.get _ _ Z,trivial⟩,f.d,_,[aQ],(gt ai (gt ar (gt aE aO))),m,_,_,Z,Z,aR⟩
theorem Wk.D1 {x0:Int}(m:Mem W G w (H)){y:(LI)}(hd:D.D1 x0=some y):
  Calls prog 70 #[iv x0] w (Res W G H (λG' Ho v=>∃r0:Value,∃i0:Itm,Ho=[i0]∧r0=v∧Ow R0 2 G' i0 r0 y)):=by
 refine Au (args:=[iv x0]) (N:=16) [.tmp 2] func70 Z Z (lb Z) Z λa f=> ?_
 unfold D.D1 at hd
 refine Ae (Ac f Z λa f=>Ay (A9 (R:=R0) (xs:=([]:LI)) (RI.one _) m T30 f Z Z Z (by decide) (All2.nil _) λaa ab w a m ac f=>Ac f Z λa f=>Aa (Ag (Ae (Ac f Z λa f=>Aa (Bd hd λad ae hd=> ?_))))))
 refine AL (λa w=>∃af:LI,af=ad∧∃(ag:GH) (ah:Value) (ai:Itm),GLe G ag∧Fr a 16 [(3,ah)]∧Mem W ag w (ai::H)∧Ow R0 2 ag ai ah af) ?_ ?_
 ·refine Ao (AM (λaj a w=>∃ak:LI,∃al:Int,(ak,al)=aj∧∃(am:GH) (an:Value) (ao:Itm),GLe G am∧Fr a 16 [(0,iv x0),(3,an),(4,iv al)]∧Mem W am w (ao::H)∧Ow R0 2 am ao an ak) ae ⟨_,_,Z,_,ab,aa,gr,f.k Z,m,ac⟩ ?_)
  clear ae f m
  rintro aj ap aq ar a w ⟨ak,al,rfl,am,an,ao,au,f,m,av⟩
  refine Ag (Ae (Ab f Z λa f=>Ab f Z λa f=>Ah f Z Z AV λa f=>Aa ?_))
  rcases Af aq with⟨aw,aq⟩|⟨aw,aq⟩
  ·refine Al f Z aw (Ap (Ag (Ao (Aq (Ab f Z λa f=>Ab f Z λa f=>A9 (R:=R0) (xs:=([al]:LI)) (RI.one _) m T30 f Z Z Z (by decide) (All2.cons Z (All2.nil _)) λax ay w a m az f=>Bd aq λaA aB aq=>Bm (RI.one _) 1 m av Z T30 Z (by decide) f Z Z Z (Ow.src (j:=0) az m Z) aB λaC aD w a m aE f=>Ac f Z λa f=>Aa (Aq (Ab f Z λa f=>Ah f Z Z Ax λa f=>Ac f Z λa f=>Aa (have m:=m.fr 1;have m:=m.eraseAt 1;?_))))))))
   obtain rfl:=sj aq
   exact⟨_,Z,_,_,Z,_,aD,aC,au,f.k Z,m,aE⟩
  ·refine Ai f Z aw (AK Z ?_)
   obtain rfl:=sj aq
   obtain rfl:=ar _ rfl
   exact⟨_,Z,_,an,ao,au,f.k Z,m,av⟩
 ·rintro a w ⟨af,rfl,ag,ah,ai,aF,f,m,aG⟩
  refine Ae (Ab f Z λa f=>Ac f Z λa f=>Aa (Ar ?_))
  obtain rfl:=sj hd
  exact⟨[ah],f.g Z,f.d,_,[ai],aF,m,_,_,Z,Z,aG⟩
theorem Wk.j1 {b0:Nat}{aa:Value}{ab:LI}{ac ad x1 x2:Int}(m:Mem W G w (ib b0 66 [aa,iv ac,iv ad]::H))(ae:RSl (RI .u8) G aa ab){y:Int×(LI)×Int×Int}(hd:D.j1 ab ac ad x1 x2=some y):
  Calls prog 72 #[pb b0,iv x1,iv x2] w (Res W G H (λG' Ho v=>∃r0:Value,Ho=[ib b0 66 [r0,iv y.2.2.1,iv y.2.2.2]]∧v=(iv y.1)∧RSl (RI .u8) G' r0 y.2.1)):=by
 refine Au (args:=[pb b0,iv x1,iv x2]) (N:=15) [.tmp 6] func72 Z Z (lb Z) Z λa f=> ?_
 unfold D.j1 at hd
 refine Ae (Ac f Z λa f=>Ay (Ab f Z λa f=>Ab f Z λa f=>Ab f Z λa f=>Ab f Z λa f=>Ah f Z Z Be λa f=>Ah f Z Z Ax λa f=>Bd hd λaf ag hd=>AI f Z call36 (Wk.a m ae ag) λah ai aj w ak m al a f=> ?_))
 obtain⟨am,rfl,rfl,an⟩:=al
 refine Ah f Z Z Ax λa f=>Ac f Z λa f=>Aa (Ar ?_)
 obtain rfl:=sj hd
 exact⟨[(iv (i64.wrap (x1+af.1)))],f.g Z,f.d,_,[ib b0 66 [am,iv af.2.2.1,iv af.2.2.2]],ak,m,_,Z,Z,an⟩
theorem Wk.L0 {b0:Nat}{aa ab:Value}{ac:LI}{ad ae:Int}{af:LL}(m:Mem W G w (ib b0 66 [aa,iv ad,iv ae]::H))(ag:RSl (RI .u8) G aa ac)(ah:R2 G ab af){y:(LI)×(LI)×Int×Int}(hd:D.L0 ac ad ae af=some y):
  Calls prog 41 #[pb b0,(.agg #[ab])] w (Res W G H (λG' Ho v=>∃r0:Value,∃i0:Itm,∃r2:Value,Ho=[i0,ib b0 66 [r2,iv y.2.2.1,iv y.2.2.2]]∧r0=v∧Ow R0 2 G' i0 r0 y.1∧RSl (RI .u8) G' r2 y.2.1)):=by
 refine Au (args:=[pb b0,(.agg #[ab])]) (N:=52) [.tmp 4] func41 Z Z (lb Z) Z λa f=> ?_
 unfold D.L0 at hd
 refine Ae (Bz (cs:=[ab]) m f Z Z Z λai w a m f=>Ac f Z λa f=>Ay (Bu underlying26 Z sizeOf24 f Z λa f=>AG 0 0 m BC f Z Z Z Z λa f=>Bg underlying24 f Z Z ah λa f=>Bd hd λaj ak hd=>BP f Z call70 (Wk.D1 m ak) λal am an w ao m ap a f=>have ag:=rd1 ao ag;Ac f Z λa f=>Ay (A9 (R:=R0) (xs:=([]:LI)) (RI.one _) m T30 f Z Z Z (by decide) (All2.nil _) λaq ar w a m au f=>Ac f Z λa f=>Aa (Ag (Bd hd λav aw hd=> ?_)))))
 refine AL (λa w=>∃ax:LI,∃ay:LI,∃az:Int,∃aA:Int,(ax,ay,az,aA)=av∧∃(aB:GH) (aC:Value) (aD:Itm) (aE:Value),GLe an aB∧Fr a 52 [(0,pb b0),(6,aC)]∧Mem W aB w (ib b0 66 [aE,iv az,iv aA]::aD::H)∧Ow R0 2 aB aD aC ax∧RSl (RI .u8) aB aE ay) ?_ ?_
 ·refine Ao (have m:=m.fr 1;have m:=m.fr 3;have m:=m.eraseAt 3;AM (λaF a w=>∃aG:LI,∃aH:LI,∃aI:LI,∃aJ:Int,∃aK:Int,(aG,aH,aI,aJ,aK)=aF∧∃(aL:GH) (aM:Value) (aN:Itm) (aO:Value) (aP:Itm) (aQ:Value),GLe an aL∧Fr a 52 [(0,pb b0),(5,aM),(6,aO)]∧Mem W aL w (ib b0 66 [aQ,iv aJ,iv aK]::aN::aP::H)∧Ow R0 2 aL aN aM aG∧Ow R0 2 aL aP aO aH∧RSl (RI .u8) aL aQ aI) aw ⟨_,_,_,_,_,Z,_,al,am,ar,aq,aa,gr,f.k Z,m,ap,au,ag⟩ ?_)
  clear aw f m
  rintro aF aR aS aT a w ⟨aG,aH,aI,aJ,aK,rfl,aL,aM,aN,aO,aP,aQ,aU,f,m,aV,aW,aX⟩
  refine Ag (Ae (Ab f Z λa f=>BJ 1 m aV Z underlying30 f Z Z λa f=>Ah f Z Z Ci λa f=>Aa ?_))
  rcases Af aS with⟨aY,aS⟩|⟨aY,aS⟩
  ·refine Al f Z aY (Ap (Ao (Ae (Ab f Z λa f=>Ab f Z λa f=>BJ 1 m aV Z underlying30 f Z Z λa f=>Bd aS λaZ a0 aS=>AI f Z call36 (Wk.a m aX a0) λa1 a2 a3 w a4 m a5 a f=> ?_))))
   obtain⟨a6,rfl,rfl,a7⟩:=a5
   refine have aV:=od1 a4 aV;have aW:=od1 a4 aW;Ac f Z λa f=>Ay (Ab f Z λa f=>Ab f Z λa f=>Ab f Z λa f=>Bd aS λa8 a9 aS=>Bq 1 m aV Z T30 f Z Z Z a9 λba a bb f=>BW 1 m aV Z Pl2 f Z Z bb a9 λbc a bd f=> ?_)
   subst bd
   refine A9 (R:=R0) (xs:=([a8]:LI)) (RI.one _) m T30 f Z Z Z (by decide) (All2.cons Z (All2.nil _)) λbe bf w a m bg f=>Bd aS λbh bi aS=>Bm (RI.one _) 3 m aW Z T30 Z (by decide) f Z Z Z (Ow.src (j:=0) bg m Z) bi λbj bk w a m bl f=>Ac f Z λa f=>Aa (have m:=m.fr 2;?_)
   obtain⟨bm,bn,m,bo⟩:=Ow.stamp (RI.mono _) aV m
   refine have a7:=rd1 bn a7;have bl:=od1 bn bl;A5 8 AF (by kernel_rfl) m (Aj 0 8 Z f Z λa f=>Aj 1 8 Z f Z λa f=>Bd aS λbp bq aS=>Fh (i:=2) 8 T30 bo bq Z (by kernel_rfl) Z f Z Z Z (.inl ⟨Z,Z⟩) (.inr ⟨_,_,Z,Z⟩) λbr a bs f=>Aj 4 8 Z f Z λa f=>Aj 5 8 Z f Z λa f=>q_p 6 8 Z f (λ_=>A8 (f.e Z) (f.e Z) Ax) λa f=>Bd aS λbt bu aS=>Fh (i:=7) 8 T30 bo bu Z (by kernel_rfl) Z f Z Z Z (.inr ⟨_,_,Z,Z⟩) (.inl ⟨Z,Z⟩) λbv a bw f=>Bh 3 Z λbx w bz m bA bA=>have bs:=rd1 bz bs;have bw:=rd1 bz bw;have a7:=rd1 bz a7;have bl:=od1 bz bl;Bd aS λbB bC aS=>BP f Z call71 (Wk.j m bs bC) λbD bE bF w bG m bH a f=>have bw:=rd1 bG bw;have a7:=rd1 bG a7;have bl:=od1 bG bl;Aa (bA bF [bE] _ _ bG m (AO λbI w bJ m=>have bw:=rd1 bJ bw;have bH:=od1 bJ bH;have a7:=rd1 bJ a7;have bl:=od1 bJ bl;Bd aS λbK bL aS=> ?_)))
   refine Bm (RI.one _) 0 m bH Z T30 Z (by decide) f Z Z Z (bw.src m) bL λbM bN w a m bO f=>Ac f Z λa f=>Aa (have m:=m.fr 3;have m:=m.fr 1;have m:=m.fr 3;have m:=m.eraseAt 3;?_)
   obtain rfl:=sj aS
   exact⟨_,Z,_,_,_,_,_,Z,_,bN,bM,bk,bj,a6,(gt aU (gt a4 (gt bn (gt bz (gt bG bJ))))),f.k Z,m,bO,bl,a7⟩
  ·refine Ai f Z aY (AK Z (have m:=m.fr 2;have m:=m.fr 1;have m:=m.eraseAt 2;?_))
   obtain rfl:=sj aS
   obtain rfl:=aT _ rfl
   exact⟨_,_,_,_,Z,_,aO,aP,aQ,aU,f.k Z,m,aW,aX⟩
 ·rintro a w ⟨ax,ay,az,aA,rfl,aB,aC,aD,aE,bP,f,m,bQ,bR⟩
  refine Ag (Ae (Ab f Z λa f=>Bd hd λbS bT hd=>AI f Z call33 (Wk.m m bR bT) λbU bV bW w bX m bY a f=> ?_))
  obtain⟨bZ,rfl,rfl,b1⟩:=bY
  refine have bQ:=od1 bX bQ;Ab f Z λa f=> ?_
  refine BF 4 (λa w=>∃b2,GLe bV b2∧Mem W b2 w (ib b0 66 [bZ,iv bS.2.2.1,iv bS.2.2.2]::aD::H)∧Fr a 52 [(0,pb b0),(6,aC),(36,pb b0),(37,(.bool bS.1)),(38,(.bool bS.1)),(42,(.bool (bS.1&&(decide ((0:Int)<(ax.length:Int))))))]) ?_ ?_
  ·rcases Bool.eq_false_or_eq_true bS.1 with b3|b3
   ·exact AB f b3 (Ab f Z λa f=>AB f b3 (BJ 1 m bQ Z underlying30 f Z Z λa f=>AB f b3 (Ah f Z Z Ci λa f=>l_o f (AY (f.e Z) b3 (f.e Z)) λa f=>⟨_,gr,m,f.weak ⟨Z,Z,Z,Z,Z,by rw[b3];rfl,trivial⟩⟩)))
   ·exact AC f b3 λa f=>AC f b3 λa f=>AC f b3 λa f=>l_o f (AX (f.e Z) b3 (f.e Z)) λa f=>⟨_,gr,m,f.weak ⟨Z,Z,Z,Z,Z,by rw[b3];rfl,trivial⟩⟩
  ·rintro a w ⟨b2,b4,m,f⟩
   refine have b1:=rd1 b4 b1;have bQ:=od1 b4 bQ;Aa ?_
   rcases Af hd with⟨b5,hd⟩|⟨b5,hd⟩
   ·refine Al f Z b5 (Aq (Ab f Z λa f=>Ab f Z λa f=>Ab f Z λa f=>BJ 1 m bQ Z underlying30 f Z Z λa f=>Bd hd λb6 b7 hd=>AI f Z call36 (Wk.a m b1 b7) λb8 b9 ca w cb m cc a f=> ?_))
    obtain⟨cd,rfl,rfl,ce⟩:=cc
    refine have bQ:=od1 cb bQ;Ab f Z λa f=>Bd hd λcf cg hd=>AI f Z call72 (Wk.j1 m ce cg) λch ci cj w ck m cl a f=> ?_
    obtain⟨cm,rfl,rfl,cn⟩:=cl
    refine have bQ:=od1 ck bQ;Bd hd λco cp hd=>Bq 1 m bQ Z T30 f Z Z Z cp λcq a cr f=>AR 1 m bQ Z sizeOf2 f Z Z cr cp Z Z Z λct w m cu=>Ay (Ab f Z λa f=>Ac f Z λa f=>Aa (Ar (have m:=m.fr 1;?_)))
    obtain rfl:=sj hd
    exact⟨[aC],f.g Z,f.d,_,[ct,ib b0 66 [cm,iv cf.2.2.1,iv cf.2.2.2]],(gt ao (gt bP (gt bX (gt b4 (gt cb ck))))),m,_,_,_,Z,Z,cu,cn⟩
   ·refine Ai f Z b5 (Ap (Ae (Ab f Z λa f=>Ac f Z λa f=>Aa (Ar (have m:=m.fr 1;?_)))))
    obtain rfl:=sj hd
    exact⟨[aC],f.g Z,f.d,_,[aD,ib b0 66 [bZ,iv bS.2.2.1,iv bS.2.2.2]],(gt ao (gt bP (gt bX b4))),m,_,_,_,Z,Z,bQ,b1⟩
theorem Wk.S1 {aa v1:Value}{ab:LL}{x1:LI}(m:Mem W G w (H))(ac:R2 G aa ab)(h1:R1 G v1 x1){y:Bool}(hd:D.S1 ab x1=some y):
  Calls prog 97 #[(.agg #[aa]),v1] w (Res W G H (λ_ Ho v=>Ho=[]∧v=(.bool y))):=by
 refine Au (args:=[(.agg #[aa]),v1]) (N:=34) [.tmp 4] func97 Z Z (lb Z) Z λa f=> ?_
 unfold D.S1 at hd
 refine Ae (Bz (cs:=[aa]) m f Z Z Z λad w a m f=>Ac f Z λa f=>Aa (Ag (Ae (Ab f Z λa f=>Bg underlying30 f Z Z h1 λa f=>AA 0 0 (ds:=[aa]) m AJ f Z Z Z Z Z λa f=>Bd hd λae af hd=>Bj f Z call17 (Wk.c m ac af) λag w ah m a f=>have ac:=rd2 ah ac;have h1:=rd1 ah h1;Ah f Z Z Dc λa f=>Aa ?_))))
 rcases Af hd with⟨ai,hd⟩|⟨ai,hd⟩
 ·refine Al f Z ai (Ae (Ac f Z λa f=>Aa (Ar (have m:=m.dp 1;?_))))
  obtain rfl:=sj hd
  exact⟨[(.bool false)],f.g Z,f.d,_,[],ah,m,Z,Z⟩
 ·refine Ai f Z ai (Ap (Ag (Ae (Ac f Z λa f=>Aa (Bd hd λaj ak hd=> ?_)))))
  refine AL (λa w=>∃q_99':Unit,aj= .inl q_99'∧∃(al:GH),GLe ag al∧Fr a 34 []∧Mem W al w (H)) ?_ ?_
  ·refine Ao (AM (λam a w=>∃an:Int,an=am∧∃(ao:GH),GLe ag ao∧Fr a 34 [(1,v1),(2,pb ad),(5,iv an)]∧Mem W ao w (ib ad 26 [aa]::H)) ak ⟨_,Z,_,gr,f.k Z,m⟩ ?_)
   clear ak f m
   rintro am ap aq ar a w ⟨an,rfl,ao,au,f,m⟩
   refine have h1:=rd1 au h1;have ac:=rd2 au ac;Ag (Ae (Ab f Z λa f=>Ab f Z λa f=>Bg underlying30 f Z Z h1 λa f=>Ah f Z Z AV λa f=>Aa ?_))
   rcases Af aq with⟨av,aq⟩|⟨av,aq⟩
   ·refine Al f Z av (Ap (Ag (Ao (Ag (A5 17 AF (by kernel_rfl) m (Cg (i:=0) (ds:=[aa]) 17 0 AJ Z Z Z Z (by kernel_rfl) Z f Z Z Z λa f=>Aj 1 17 Z f Z λa f=>Aj 2 17 Z f Z λa f=>Bd aq λaw ax aq=>Cd 3 17 T30 h1 ax Z f Z Z λay az a aA aB f=> ?_))))))
    subst aB
    refine B3 4 17 Pl2 aA Z f Z λa f=>Bd aq λaC aD aq=>BH (i:=5) 17 Z (by kernel_rfl) Z f Z Z Z call27 (λ_ _ w aE m=>Wk.s m (rd2 aE ac) aD) λa f=>q_p 6 17 Z f (λ_=>BN (f.e Z)) λa f=>Aj 7 17 Z f Z λa f=>Bd aq λaF aG aq=>CM (fuel':=0) (listed':= #[true,true,true,true,true,true,true,true,true,true,true,true,true,true,true,true,true]) (λa=>Fr a 34 [(1,v1),(2,pb ad),(5,iv an),(14,(.bool (decide (an<(x1.length:Int))))),(17,(.agg #[aa])),(18,v1),(19,iv an),(20,ay),(21,iv aw),(22,(.bool aC)),(23,(.bool (!aC))),(24,(.bool (!aC))),(33,(.bool aF))]) ?_ ?_
    ·intro a f
     refine AO λaH w aI m=>Aa ?_
     rcases Af aq with⟨aJ,aq⟩|⟨aJ,aq⟩
     ·refine Al f Z aJ (Ae (Ac f Z λa f=>Aa (Ar (have m:=m.dp 1;?_))))
      obtain rfl:=sj aq
      obtain rfl:=ar _ rfl
      obtain rfl:=sj hd
      exact⟨[(.bool false)],f.g Z,f.d,_,[],(gt ah (gt au aI)),m,Z,Z⟩
     ·refine Ai f Z aJ (Ap (Aq (Ab f Z λa f=>Ah f Z Z Ax λa f=>Ac f Z λa f=>Aa ?_)))
      obtain rfl:=sj aq
      exact⟨_,Z,_,Z,_,(gt au aI),f.k Z,m⟩
    ·intro aK
     rcases Af aG with⟨aL,aG⟩|⟨aL,aG⟩
     ·refine AD 8 17 Z f aL λa f=>AD 9 17 Z f aL λa f=>AD 10 17 Z f aL λa f=>AD 11 17 Z f aL λa f=>AD 12 17 Z f aL λa f=>AD 13 17 Z f aL λa f=>AD 14 17 Z f aL λa f=>AD 15 17 Z f aL λa f=>q_p 16 17 Z f (λ_=>AY (f.e Z) aL (f.e Z)) λa f=> ?_
      obtain rfl:=sj aG
      exact aK _ (f.k Z)
     ·refine Aj (hw:=wo f aL) 8 17 Z f Z λa f=>Aj (hw:=wo f aL) 9 17 Z f Z λa f=>Bd aG λaM aN aG=>Fh (i:=10) 17 T30 h1 aN Z (by kernel_rfl) Z f (BD f Z Z Z aL) Z Z (.inl ⟨Z,Z⟩) (.inr ⟨_,_,Z,Z⟩) λaO a aP f=>Aj (hw:=wo f aL) 11 17 Z f Z λa f=>Aj (hw:=wo f aL) 12 17 Z f Z λa f=>Bd aG λaQ aR aG=>Cd (hw:=wo f aL) 13 17 T30 h1 aR Z f Z Z λaS aT a aU aV f=> ?_
      subst aV
      refine B3 (hw:=wo f aL) 14 17 Pl2 aU Z f Z λa f=>Bd aG λaW aX aG=>BH (i:=15) 17 Z (by kernel_rfl) Z f (BD f Z Z Z aL) Z Z call20 (λ_ _ w aY m=>Wk.P m (rd1 aY aP) aX) λa f=>q_p 16 17 Z f (λ_=>AX (f.e Z) aL (f.e Z)) λa f=> ?_
      obtain rfl:=sj aG
      exact aK _ (f.k Z)
   ·refine Ai f Z av (AK Z (have m:=m.dp 1;?_))
    obtain rfl:=sj aq
    obtain rfl:=ar _ rfl
    exact⟨_,Z,_,au,f.weak trivial,m⟩
  ·rintro a w ⟨_,rfl,al,aZ,f,m⟩
   refine Ae (Ac f Z λa f=>Aa (Ar ?_))
   obtain rfl:=sj hd
   exact⟨[(.bool true)],f.g Z,f.d,_,[],(gt ah aZ),m,Z,Z⟩
theorem Wk.m1 {aa v1:Value}{ab:LL}{x1:LI}(m:Mem W G w (H))(ac:R2 G aa ab)(h1:R1 G v1 x1){y:Bool}(hd:D.m1 ab x1=some y):
  Calls prog 68 #[(.agg #[aa]),v1] w (Res W G H (λ_ Ho v=>Ho=[]∧v=(.bool y))):=by
 refine Au (args:=[(.agg #[aa]),v1]) (N:=12) [.tmp 4] func68 Z Z (lb Z) Z λa f=> ?_
 unfold D.m1 at hd
 refine Ae (Bz (cs:=[aa]) m f Z Z Z λad w a m f=>Ac f Z λa f=>Ay (AA 0 0 (ds:=[aa]) m AJ f Z Z Z Z Z λa f=>Bd hd λae af hd=>Bj f Z call6 (Wk.q m ac af) λag w ah m a f=>have ac:=rd2 ah ac;have h1:=rd1 ah h1;Ab f Z λa f=>Bd hd λai aj hd=> ?_))
 refine BF 4 (λa w=>∃ak,GLe ag ak∧Mem W ak w (ib ad 26 [aa]::H)∧Fr a 12 [(0,(.agg #[aa])),(1,v1),(2,pb ad),(5,(.agg #[aa])),(6,(.bool ae)),(7,(.bool ae)),(11,(.bool ai))]) ?_ ?_
 ·rcases Af aj with⟨al,aj⟩|⟨al,aj⟩
  ·refine AB f al (AA 0 0 (ds:=[aa]) m AJ f Z Z Z Z Z λa f=>AB f al (Ab f Z λa f=>AB f al (Bd aj λam an aj=>Bj f Z call97 (Wk.S1 m ac h1 an) λao w ap m a f=>l_o f (AY (f.e Z) al (f.e Z)) λa f=> ?_)))
   obtain rfl:=sj aj
   exact⟨_,ap,m,f.k Z⟩
  ·refine AC f al λa f=>AC f al λa f=>AC f al λa f=>l_o f (AX (f.e Z) al (f.e Z)) λa f=> ?_
   obtain rfl:=sj aj
   exact⟨_,gr,m,f.k Z⟩
 ·rintro a w ⟨ak,aq,m,f⟩
  refine Ac f Z λa f=>Aa (Ar (have m:=m.dp 1;?_))
  obtain rfl:=sj hd
  exact⟨[(.bool ai)],f.g Z,f.d,_,[],(gt ah aq),m,Z,Z⟩
end Go.Proofs.YtijemnhleooagaaGreatDoor

set_option maxRecDepth 100000
namespace Go.Proofs.YtijemnhleooagaaGreatDoor
open Go Go.Sx
open Go.Proofs.Tryz Go.Proofs.YtijemnhleooagaaGreatDoor.Tryz IntKind
variable {W w : World} {G : GH} {H : List Itm}
abbrev BV (b:Nat)(p0 p1:Int)(p2:Value):Itm:=ib b 66 [p2,iv p0,iv p1]
theorem T51 :SlT prog 51 60 1 4 (.int .u32 0):=⟨underlying51,Tryz.t60,by kernel_rfl,by kernel_rfl,by kernel_rfl,by kernel_rfl⟩
theorem T98 :SlT prog 98 122 2 16 (.agg #[iv 0,iv 0]):=⟨underlying98,Tryz.t122,by kernel_rfl,by kernel_rfl,by kernel_rfl,by kernel_rfl⟩
theorem DB :B8 prog 60:=isAgg60
theorem Ag122 :Agg prog 122 2:=⟨isAgg122,sizeOf122⟩
theorem Wk.L1 {aa v1:Value}{ab:LL}{x1:LI}(m:Mem W G w (H))(ac:R2 G aa ab)(h1:R1 G v1 x1){y:(LL)}(hd:D.L1 ab x1=some y):
  Calls prog 69 #[(.agg #[aa]),v1] w (Res W G H (λG' Ho v=>∃r0:Value,∃i0:Itm,Ho=[i0]∧v=(.agg #[r0])∧Ow R1 30 G' i0 r0 y)):=by
 refine Au (args:=[(.agg #[aa]),v1]) (N:=37) [.cell 4 26] func69 Z Z (lb Z) Z λa f=> ?_
 unfold D.L1 at hd
 refine Ae (Bz (cs:=[aa]) m f Z Z Z λad w a m f=>AP (cs:=[sn]) zeroValue26 m f Z Z λae w a m f=>Ay (Ab f Z λa f=>Bg underlying30 f Z Z h1 λa f=>Bd hd λaf ag hd=>AI f Z call57 (Wk.n m ag) λah ai aj w ak m al a f=> ?_))
 obtain⟨am,an,rfl,rfl,ao⟩:=al
 refine have ac:=rd2 ak ac;have h1:=rd1 ak h1;AP (cs:=[sn]) zeroValue26 m f Z Z λap w a m f=>Am 0 0 (ds:=[am]) m sizeOf26 f Z Z Z (Ak (Ow.one1 1 m ao Z) As) Z (lb Z) Z λw m=>Aa (Ag (Ae (Ac f Z λa f=>Aa (Bd hd λaq ar hd=> ?_))))
 refine AL (λa w=>∃au:LL,au=aq∧∃(av:GH) (aw:Itm),GLe ai av∧Fr a 37 [(4,pb ae),(5,pb ap)]∧Mem W av w (ib ae 26 [sn]::ib ap 26 [am]::aw::H)∧Ow R1 30 av aw am au) ?_ ?_
 ·refine Ao (have m:=m.fr 2;have m:=m.fr 3;AM (λax a w=>∃ay:Int,∃az:LL,(ay,az)=ax∧∃(aA:GH) (aB:Itm),GLe ai aA∧Fr a 37 [(1,v1),(2,pb ad),(4,pb ae),(5,pb ap),(6,iv ay)]∧Mem W aA w (ib ad 26 [aa]::ib ae 26 [sn]::ib ap 26 [am]::aB::H)∧Ow R1 30 aA aB am az) ar ⟨_,_,Z,_,an,gr,f.k Z,m,ao⟩ ?_)
  clear ar f m
  rintro ax aC aD aE a w ⟨ay,az,rfl,aA,aB,aF,f,m,aG⟩
  refine have h1:=rd1 aF h1;have ac:=rd2 aF ac;Ag (Ae (Ab f Z λa f=>Ab f Z λa f=>Bg underlying30 f Z Z h1 λa f=>Ah f Z Z AV λa f=>Aa ?_))
  rcases Af aD with⟨aH,aD⟩|⟨aH,aD⟩
  ·refine Al f Z aH (Ap (Ag (Ao (Ae (Ac f Z λa f=>Aa (Bd aD λaI aJ aD=> ?_))))))
   refine AL (λa w=>∃aK:LL,aK=aI∧∃(aL:GH) (aM:Itm),GLe aA aL∧Fr a 37 [(1,v1),(2,pb ad),(4,pb ae),(5,pb ap),(6,iv ay)]∧Mem W aL w (ib ad 26 [aa]::ib ae 26 [sn]::ib ap 26 [am]::aM::H)∧Ow R1 30 aL aM am aK) ?_ ?_
   ·refine Ao (AM (λaN a w=>∃aO:Int,∃aP:LL,(aO,aP)=aN∧∃(aQ:GH) (aR:Itm),GLe aA aQ∧Fr a 37 [(1,v1),(2,pb ad),(4,pb ae),(5,pb ap),(6,iv ay),(7,iv aO)]∧Mem W aQ w (ib ad 26 [aa]::ib ae 26 [sn]::ib ap 26 [am]::aR::H)∧Ow R1 30 aQ aR am aP) aJ ⟨_,_,Z,_,aB,gr,f.k Z,m,aG⟩ ?_)
    clear aJ f m
    rintro aN aS aT aU a w ⟨aO,aP,rfl,aQ,aR,aV,f,m,aW⟩
    refine have h1:=rd1 aV h1;have ac:=rd2 aV ac;Ag (Ae (Ab f Z λa f=>Ab f Z λa f=>Ah f Z Z AV λa f=>Aa ?_))
    rcases Af aT with⟨aX,aT⟩|⟨aX,aT⟩
    ·refine Al f Z aX (Ap (Ag (Ao (Ag (A5 10 AF (by kernel_rfl) m (Cg (i:=0) (ds:=[aa]) 10 0 AJ Z Z Z Z (by kernel_rfl) Z f Z Z Z λa f=>Aj 1 10 Z f Z λa f=>Aj 2 10 Z f Z λa f=>Bd aT λaY aZ aT=>Cd 3 10 T30 h1 aZ Z f Z Z λa0 a1 a a2 a3 f=> ?_))))))
     subst a3
     refine B3 4 10 Pl2 a2 Z f Z λa f=>Aj 5 10 Z f Z λa f=>Aj 6 10 Z f Z λa f=>Bd aT λa4 a5 aT=>Cd 7 10 T30 h1 a5 Z f Z Z λa6 a7 a a8 a9 f=> ?_
     subst a9
     refine B3 8 10 Pl2 a8 Z f Z λa f=>Bd aT λba bb aT=>BH (i:=9) 10 Z (by kernel_rfl) Z f Z Z Z call28 (λ_ _ w bc m=>Wk.i m (rd2 bc ac) bb) λa f=>AO λbd w be m=>have aW:=od3 be aW;Aa ?_
     rcases Af aT with⟨bf,aT⟩|⟨bf,aT⟩
     ·refine Al f Z bf (Aq (AA 2 0 (ds:=[am]) m AJ f Z Z Z Z Z λa f=>Ab f Z λa f=>Ab f Z λa f=>have m:=m.fr 3;Bd aT λbg bh aT=>AI f Z call60 (Wk.k m aW bh) λbi bj bk w bl m bm a f=> ?_))
      obtain⟨bn,rfl,rfl,bo⟩:=bm
      refine Am 3 0 (ds:=[am]) m sizeOf26 f Z Z Z (Ak (Ow.one1 0 m bo Z) As) Z (lb Z) Z λw m=>Aa (Aq (Ab f Z λa f=>Ah f Z Z Ax λa f=>Ac f Z λa f=>Aa (have m:=m.fr 3;have m:=m.fr 3;have m:=m.fr 3;?_)))
      obtain rfl:=sj aT
      exact⟨_,Z,_,_,Z,_,bn,(gt aV (gt be bl)),f.k Z,m,bo⟩
     ·refine Ai f Z bf (Ap (Aq (Ab f Z λa f=>Ah f Z Z Ax λa f=>Ac f Z λa f=>Aa ?_)))
      obtain rfl:=sj aT
      exact⟨_,Z,_,_,Z,_,aR,(gt aV be),f.k Z,m,aW⟩
    ·refine Ai f Z aX (AK Z ?_)
     obtain rfl:=sj aT
     obtain rfl:=aU _ rfl
     exact⟨_,Z,_,aR,aV,f.k Z,m,aW⟩
   ·rintro a w ⟨aK,rfl,aL,aM,bp,f,m,bq⟩
    refine Aq (Ab f Z λa f=>Ah f Z Z Ax λa f=>Ac f Z λa f=>Aa ?_)
    obtain rfl:=sj aD
    exact⟨_,Z,_,_,Z,_,aM,(gt aF bp),f.k Z,m,bq⟩
  ·refine Ai f Z aH (AK Z (have m:=m.fr 3;have m:=m.fr 3;have m:=m.fr 3;have m:=m.eraseAt 3;?_))
   obtain rfl:=sj aD
   obtain rfl:=aE _ rfl
   exact⟨_,Z,_,aB,aF,f.k Z,m,aG⟩
 ·rintro a w ⟨au,rfl,av,aw,br,f,m,bs⟩
  refine Ae (AA 1 0 (ds:=[am]) m AJ f Z Z Z Z Z λa f=>Am 0 0 (ds:=[am]) m sizeOf26 f Z Z Z (Ak (Ow.one1 2 m bs Z) As) Z (lb Z) Z λw m=>Aa (Ar (have bt:=Bi (P:=prog) 0 m AJ f (s:=4) rfl rfl rfl;have m:=m.fr 2;have m:=m.eraseAt 2;have m:=m.eraseAt 1;?_)))
  obtain rfl:=sj hd
  exact⟨[(.agg #[am])],⟨bt,trivial⟩,f.d,_,[aw],(gt ak br),m,_,_,Z,Z,bs⟩
theorem Wk.y0 {aa v1:Value}{ab:LL}{x1:LI}(m:Mem W G w (H))(ac:R2 G aa ab)(h1:R1 G v1 x1){y:(LL)×Bool}(hd:D.y0 ab x1=some y):
  Calls prog 40 #[(.agg #[aa]),v1] w (Res W G H (λG' Ho v=>∃r0:Value,∃i0:Itm,Ho=[i0]∧v= .tuple #[(.agg #[r0]),(.bool y.2)]∧Ow R1 30 G' i0 r0 y.1)):=by
 refine Au (args:=[(.agg #[aa]),v1]) (N:=14) [.cell 4 26,.tmp 5] func40 Z Z (lb Z) Z λa f=> ?_
 unfold D.y0 at hd
 refine Ae (Bz (cs:=[aa]) m f Z Z Z λad w a m f=>AP (cs:=[sn]) zeroValue26 m f Z Z λae w a m f=>Ac f Z λa f=>Aa (Ag (Ae (AA 1 0 (ds:=[aa]) m AJ f Z Z Z Z Z λa f=>Ab f Z λa f=>Bd hd λaf ag hd=>Bj f Z call68 (Wk.m1 m ac h1 ag) λah w ai m a f=>have ac:=rd2 ai ac;have h1:=rd1 ai h1;l_o f (BN (f.e Z)) λa f=>Aa ?_))))
 rcases Af hd with⟨aj,hd⟩|⟨aj,hd⟩
 ·refine Al f Z aj (Ae ?_)
  have ak:∀w,(Instr.build 26 #[]).run prog w= .ok (.agg #[sn]) w:=by intro w;simp[Instr.build,Instr.fill,Bb,A6,AT,A2,AQ,Bc,A7]
  refine Bv f Z Z ak λa f=>Am 0 0 (ds:=[sn]) m sizeOf26 f Z Z Z (Ak Z As) Z (lb Z) Z λw m=>Ac f Z λa f=>Aa (Ar ?_)
  obtain⟨al,m,am⟩:=Ow.nil R1 30 m
  refine have an:=Bi (P:=prog) 1 m AJ f (s:=4) rfl rfl rfl;have m:=m.eraseAt 2;have m:=m.eraseAt 1;?_
  obtain rfl:=sj hd
  exact⟨[(.agg #[sn]),(.bool false)],⟨an,f.get _ _ Z,trivial⟩,f.d,_,[al],ai,m,_,_,Z,Z,am⟩
 ·refine Ai f Z aj (Ap (Ae (AA 1 0 (ds:=[aa]) m AJ f Z Z Z Z Z λa f=>Ab f Z λa f=>Bd hd λao ap hd=>AI f Z call69 (Wk.L1 m ac h1 ap) λaq ar au w av m aw a f=> ?_)))
  obtain⟨ax,ay,rfl,rfl,az⟩:=aw
  refine Am 1 0 (ds:=[ax]) m sizeOf26 f Z Z Z (Ak (Ow.one1 0 m az Z) As) Z (lb Z) Z λw m=>Ac f Z λa f=>Aa (Ar (have aA:=Bi (P:=prog) 1 m AJ f (s:=4) rfl rfl rfl;have m:=m.eraseAt 2;have m:=m.eraseAt 1;?_))
  obtain rfl:=sj hd
  exact⟨[(.agg #[ax]),(.bool true)],⟨aA,f.get _ _ Z,trivial⟩,f.d,_,[ay],(gt ai av),m,_,_,Z,Z,az⟩
theorem Wk.X {b0:Nat}{aa:Value}{ab:LI}{ac ad:Int}(m:Mem W G w (ib b0 66 [aa,iv ac,iv ad]::H))(ae:RSl (RI .u8) G aa ab){y:(LL)×(LI)×Int×Int}(hd:D.a2 ab ac ad=some y):
  Calls prog 16 #[pb b0] w (Res W G H (λG' Ho v=>∃r0:Value,∃r1:Value,Ho=[BV b0 y.2.2.1 y.2.2.2 r1]∧v=(.agg #[r0])∧R2 G' r0 y.1∧RSl (RI .u8) G' r1 y.2.1)):=by
 refine Au (args:=[pb b0]) (N:=114) [.cell 2 26] func16 Z Z (lb Z) Z λa f=> ?_
 unfold D.a2 at hd
 refine Ae (AP (cs:=[sn]) zeroValue26 m f Z Z λaf w a m f=>Aa (Ag (Ae (Ab f Z λa f=>have m:=m.fr 1;Bd hd λag ah hd=>AI f Z call33 (Wk.m m ae ah) λai aj ak w al m am a f=> ?_))))
 obtain⟨an,rfl,rfl,ao⟩:=am
 refine Aa ?_
 rcases Af hd with⟨ap,hd⟩|⟨ap,hd⟩
 ·refine Al f Z ap (Ae (Ab f Z λa f=>Bd hd λaq ar hd=>AI f Z call34 (Wk.a1 m ao ar) λau av aw w ax m ay a f=> ?_))
  obtain⟨az,aA,aB,rfl,rfl,aC,aD⟩:=ay
  refine Am 2 0 (ds:=[az]) m sizeOf26 f Z Z Z (Ak (Ow2.one1 0 m aC Z) As) Z (lb Z) Z λw m=>Aa (Ar ?_)
  obtain⟨aE,aF,m,aG⟩:=Ow2.stamp (RI.mono _) aC m
  refine have aD:=rd1 aF aD;have aH:=Bi (P:=prog) 1 m AJ f (s:=2) rfl rfl rfl;have m:=m.eraseAt 1;?_
  obtain rfl:=sj hd
  exact⟨[(.agg #[az])],⟨aH,trivial⟩,f.d,_,[BV b0 aq.2.2.1 aq.2.2.2 aB],(gt al (gt ax aF)),m,_,_,Z,Z,aG,aD⟩
 ·refine Ai f Z ap (Ap (Ae (Ab f Z λa f=>Bd hd λaI aJ hd=>AI f Z call36 (Wk.a m ao aJ) λaK aL aM w aN m aO a f=> ?_)))
  obtain⟨aP,rfl,rfl,aQ⟩:=aO
  refine Ah f Z Z Ax λa f=>Bd hd λaR aS hd=>AI f Z call35 (Wk.c1 m aS) λaT aU aV w aW m aX a f=> ?_
  obtain⟨aY,aZ,rfl,rfl,a0⟩:=aX
  refine have aQ:=rd1 aW aQ;AP (cs:=[sn]) zeroValue26 m f Z Z λa1 w a m f=>Am 0 0 (ds:=[aY]) m sizeOf26 f Z Z Z (Ak (Ow.one1 1 m a0 Z) As) Z (lb Z) Z λw m=>Aa (Ag (Ae (Ab f Z λa f=>have m:=m.fr 2;Bd hd λa2 a3 hd=>AI f Z call36 (Wk.a m aQ a3) λa4 a5 a6 w a7 m a8 a f=> ?_)))
  obtain⟨a9,rfl,rfl,ba⟩:=a8
  refine have a0:=od3 a7 a0;Ac f Z λa f=>Aa (Bd hd λbb bc hd=> ?_)
  refine AL (λa w=>∃bd:LI,∃be:Int,∃bf:Int,∃bg:LL,(bd,be,bf,bg)=bb∧∃(bh:GH) (bi:Value) (bj:Value) (bk:Itm),GLe a5 bh∧Fr a 114 [(0,pb b0),(2,pb af),(3,pb a1)]∧Mem W bh w (ib b0 66 [bi,iv be,iv bf]::ib af 26 [sn]::ib a1 26 [bj]::bk::H)∧RSl (RI .u8) bh bi bd∧Ow R1 30 bh bk bj bg) ?_ ?_
  ·refine Ao (have m:=m.fr 3;have m:=m.fr 1;AM (λbl a w=>∃bm:Int,∃bn:LI,∃bo:Int,∃bp:Int,∃bq:LL,(bm,bn,bo,bp,bq)=bl∧∃(br:GH) (bs:Value) (bt:Value) (bu:Itm),GLe a5 br∧Fr a 114 [(0,pb b0),(2,pb af),(3,pb a1),(4,iv bm)]∧Mem W br w (ib b0 66 [bs,iv bo,iv bp]::ib af 26 [sn]::ib a1 26 [bt]::bu::H)∧RSl (RI .u8) br bs bn∧Ow R1 30 br bu bt bq) bc ⟨_,_,_,_,_,Z,_,a9,aY,aZ,gr,f.k Z,m,ba,a0⟩ ?_)
   clear bc f m
   rintro bl bv bw bx a w ⟨bm,bn,bo,bp,bq,rfl,br,bs,bt,bu,bz,f,m,bA,bB⟩
   refine Ag (Ae (Ab f Z λa f=>Ah f Z Z Ci λa f=>Ab f Z λa f=>Bd bw λbC bD bw=> ?_))
   refine BF 4 (λa w=>∃bE,GLe br bE∧Mem W bE w (ib b0 66 [bs,iv bo,iv bp]::ib af 26 [sn]::ib a1 26 [bt]::bu::H)∧Fr a 114 [(0,pb b0),(2,pb af),(3,pb a1),(4,iv bm),(29,iv bm),(30,(.bool (decide ((0:Int)<bm)))),(31,(.bool (decide ((0:Int)<bm)))),(35,(.bool bC))]) ?_ ?_
   ·rcases Af bD with⟨bF,bD⟩|⟨bF,bD⟩
    ·refine AB f bF (AA 2 0 (ds:=[bt]) m AJ f Z Z Z Z Z λa f=>AB f bF (Bd bD λbG bH bD=>AI f Z call17 (Ow.lendCall (RSl.mono (RI.mono _)) 3 bB m Z (λbI bJ m bK=>Wk.c m bK bH) (λ_ _ _ _ h=>h)) λbL bM bN w bO m bP a f=> ?_))
     obtain⟨rfl,rfl⟩:=bP
     refine AB f bF (Ah f Z Z AV λa f=>l_o f (AY (f.e Z) bF (f.e Z)) λa f=> ?_)
     obtain rfl:=sj bD
     exact⟨_,bO,m,f.k Z⟩
    ·refine AC f bF λa f=>AC f bF λa f=>AC f bF λa f=>l_o f (AX (f.e Z) bF (f.e Z)) λa f=> ?_
     obtain rfl:=sj bD
     exact⟨_,gr,m,f.k Z⟩
   ·rintro a w ⟨bE,bQ,m,f⟩
    refine have bA:=rd1 bQ bA;have bB:=od3 bQ bB;Aa ?_
    rcases Af bw with⟨bR,bw⟩|⟨bR,bw⟩
    ·refine Al f Z bR (Ap (Ag (Ao (Ae (AA 2 0 (ds:=[bt]) m AJ f Z Z Z Z Z λa f=>have m:=m.fr 3;?_)))))
     obtain⟨bS,bT,m,bU⟩:=Ow.stamp (RSl.mono (RI.mono _)) bB m
     refine have bA:=rd1 bT bA;Bd bw λbV bW bw=>BP f Z call21 (Wk.O m bU bW) λbX bY bZ w b1 m b2 a f=>have bU:=rd2 b1 bU;have bA:=rd1 b1 bA;Ac f Z λa f=>Ay (Ab f Z λa f=>Ab f Z λa f=>Ab f Z λa f=>BJ 0 m b2 Z underlying24 f Z Z λa f=>have m:=m.fr 1;Bd bw λb3 b4 bw=>AI f Z call36 (Wk.a m bA b4) λb5 b6 b7 w b8 m b9 a f=> ?_)
     obtain⟨ca,rfl,rfl,cb⟩:=b9
     refine have b2:=od3 b8 b2;have bU:=rd2 b8 bU;Bd bw λcc cd bw=>Bq 1 m b2 Z T24 f Z Z Z cd λce a cf f=>BW 1 m b2 Z BU f Z Z cf cd λcg a ch f=>Ac f Z λa f=>Aa (Ag (Bd bw λci cj bw=> ?_))
     refine AL (λa w=>∃ck:LL,ck=ci∧∃(cl:GH) (cm:Nat) (cn:Value) (co:Itm),GLe b6 cl∧Fr a 114 [(0,pb b0),(2,pb af),(3,pb a1),(4,iv bm),(7,pb cm)]∧Mem W cl w (BV b0 b3.2.2.1 b3.2.2.2 ca::ib af 26 [sn]::ib a1 26 [bt]::ib cm 26 [cn]::co::H)∧Ow R1 30 cl co cn ck) ?_ ?_
     ·refine A5 13 AF (by kernel_rfl) m (Cg (i:=0) (ds:=[bt]) 13 3 AJ Z Z Z Z (by kernel_rfl) Z f Z Z Z λa f=>Aj 1 13 Z f Z λa f=>Bd cj λcp cq cj=>Cd 2 13 T30 ch cq Z f Z Z λcr ct a cu cv f=> ?_)
      subst cv
      refine B3 3 13 Pl2 cu Z f Z λa f=>Aj 4 13 Z f Z λa f=>Bd cj λcw cx cj=>Cd 5 13 T30 ch cx Z f Z Z λcy cz a cA cB f=> ?_
      subst cB
      refine B3 6 13 Pl2 cA Z f Z λa f=>CD (i:=7) (j:=11) (l1:= #[true,true,true,true,true,true,true,true,false,false,false,false,false,false]) (l2:= #[true,true,true,true,true,true,true,false,false,false,false,true,false,false]) Z Z (by kernel_rfl) Z Z ?_ ?_
      ·intro cC w cD m cE cE
       refine have bU:=rd2 cD bU;Bd cj λcF cG cj=>AI f Z call37 (Wk.K m bU cG) λcH cI cJ w cK m cL a f=> ?_
       obtain⟨cM,cN,rfl,rfl,cO⟩:=cL
       refine Aa (cE cI [cN] _ _ cK m (Aj 8 13 Z f Z λa f=>q_p 9 13 Z f (λ_=>AE (f.e Z) Z) λa f=>q_p 10 13 Z f (λ_=>AE (f.e Z) Z) λa f=>Bh 11 Z λcP w cQ m cR cR=>have cO:=od3 cQ cO;AP (cs:=[sn]) zeroValue26 m f Z Z λcS w a m f=>Aa (cR cP [ib cS 26 [sn],cN] _ _ gr m (Bh 12 Z λcT w cU m cV cV=>have cO:=od3 cU cO;Am 0 0 (ds:=[cM]) m sizeOf26 f Z Z Z (Ak (Ow.one1 1 m cO Z) As) Z (lb Z) Z λw m=>Aa (cV cT [ib cS 26 [cM],cN] _ _ gr m (AO λcW w cX m=>have cO:=od3 cX cO;Ac f Z λa f=>Aa (have m:=m.fr 5;have m:=m.fr 5;have m:=m.fr 4;have m:=m.eraseAt 5;?_)))))))
       obtain rfl:=sj cj
       exact⟨_,Z,_,cS,cM,cN,(gt cD (gt cK (gt cQ (gt cU cX)))),f.k Z,m,cO⟩
      ·intro cP w cQ m cR cR
       refine Bd cj λcF cG cj=>have bU:=rd2 cQ bU;AP (cs:=[sn]) zeroValue26 m f Z Z λcS w a m f=>Aa (cR cP [ib cS 26 [sn]] _ _ gr m (Bh 7 Z λcC w cD m cE cE=>have bU:=rd2 cD bU;AI f Z call37 (Wk.K m bU cG) λcH cI cJ w cK m cL a f=> ?_))
       obtain⟨cM,cN,rfl,rfl,cO⟩:=cL
       refine Aa (cE cI [cN,ib cS 26 [sn]] _ _ cK m (Aj 8 13 Z f Z λa f=>q_p 9 13 Z f (λ_=>AE (f.e Z) Z) λa f=>q_p 10 13 Z f (λ_=>AE (f.e Z) Z) λa f=>Bh 12 Z λcT w cU m cV cV=>have cO:=od3 cU cO;Am 1 0 (ds:=[cM]) m sizeOf26 f Z Z Z (Ak (Ow.one1 0 m cO Z) As) Z (lb Z) Z λw m=>Aa (cV cT [cN,ib cS 26 [cM]] _ _ gr m (AO λcW w cX m=>have cO:=od3 cX cO;Ac f Z λa f=>Aa (have m:=m.fr 1;have m:=m.fr 5;have m:=m.fr 5;have m:Mem W cW w (BV b0 b3.2.2.1 b3.2.2.2 ca::ib af 26 [sn]::ib a1 26 [bt]::ib cS 26 [cM]::cN::bY::H):=m.fr 4;have m:=m.eraseAt 5;?_)))))
       obtain rfl:=sj cj
       exact⟨_,Z,_,cS,cM,cN,(gt cQ (gt cD (gt cK (gt cU cX)))),f.k Z,m,cO⟩
     ·rintro a w ⟨ck,rfl,cl,cm,cn,co,cY,f,m,cZ⟩
      refine have cb:=rd1 cY cb;Aq (AA 3 0 (ds:=[cn]) m AJ f Z Z Z Z Z λa f=>Am 2 0 (ds:=[cn]) m sizeOf26 f Z Z Z (Ak (Ow.one1 4 m cZ Z) As) Z (lb Z) Z λw m=>Aa (Aq (Ab f Z λa f=>Ah f Z Z Be λa f=>Ac f Z λa f=>Aa (have m:=m.fr 4;have m:=m.fr 3;have m:=m.fr 3;have m:Mem W cl w (BV b0 b3.2.2.1 b3.2.2.2 ca::ib af 26 [sn]::ib a1 26 [cn]::co::ib cm 26 [cn]::H):=m.fr 3;have m:=m.eraseAt 4;?_))))
      obtain rfl:=sj bw
      exact⟨_,Z,_,_,_,_,_,Z,_,ca,cn,co,(gt bz (gt bQ (gt bT (gt b1 (gt b8 cY))))),f.k Z,m,cb,cZ⟩
    ·refine Ai f Z bR (AK Z ?_)
     obtain rfl:=sj bw
     obtain rfl:=bx _ rfl
     exact⟨_,_,_,_,Z,_,bs,bt,bu,(gt bz bQ),f.k Z,m,bA,bB⟩
  ·rintro a w ⟨bd,be,bf,bg,rfl,bh,bi,bj,bk,c0,f,m,c1,c2⟩
   refine Ag (Ae (Ab f Z λa f=>Bd hd λc3 c4 hd=>AI f Z call33 (Wk.m m c1 c4) λc5 c6 c7 w c8 m c9 a f=> ?_))
   obtain⟨da,rfl,rfl,db⟩:=c9
   refine have c2:=od3 c8 c2;Aa (Bd hd λdc dd hd=> ?_)
   refine AL (λa w=>∃de:LI,∃df:Int,∃dg:Int,∃dh:LL,(de,df,dg,dh)=dc∧∃(di:GH) (dj:Value) (dk:Value),GLe c6 di∧Fr a 114 [(0,pb b0),(2,pb af),(3,pb a1)]∧Mem W di w (ib b0 66 [dj,iv df,iv dg]::ib af 26 [sn]::ib a1 26 [dk]::H)∧RSl (RI .u8) di dj de∧R2 di dk dh) ?_ ?_
   ·rcases Af dd with⟨dl,dd⟩|⟨dl,dd⟩
    ·refine Al f Z dl (Ae (Ab f Z λa f=>AA 2 0 (ds:=[bj]) m AJ f Z Z Z Z Z λa f=>Bd dd λdm dn dd=>AI f Z call17 (Ow.lendCall (RSl.mono (RI.mono _)) 3 c2 m Z (λdp dq m dr=>Wk.c m dr dn) (λ_ _ _ _ h=>h)) λdt du dv w dw m dx a f=> ?_))
     obtain⟨rfl,rfl⟩:=dx
     refine have db:=rd1 dw db;have c2:=od3 dw c2;Bd dd λdy dz dd=>AI f Z call36 (Wk.a m db dz) λdA dB dC w dD m dE a f=> ?_
     obtain⟨dF,rfl,rfl,dG⟩:=dE
     refine have c2:=od3 dD c2;Ac f Z λa f=>Ay (Ab f Z λa f=>AA 2 0 (ds:=[bj]) m AJ f Z Z Z Z Z λa f=>Bd dd λdH dI dd=>AI f Z call17 (Ow.lendCall (RSl.mono (RI.mono _)) 3 c2 m Z (λdJ dK m dL=>Wk.c m dL dI) (λ_ _ _ _ h=>h)) λdM dN dO w dP m dQ a f=> ?_)
     obtain⟨rfl,rfl⟩:=dQ
     refine have dG:=rd1 dP dG;have c2:=od3 dP c2;Bd dd λdR dS dd=>AI f Z call36 (Wk.a m dG dS) λdT dU dV w dW m dX a f=> ?_
     obtain⟨dY,rfl,rfl,dZ⟩:=dX
     refine have c2:=od3 dW c2;Ac f Z λa f=>Ay (AA 2 0 (ds:=[bj]) m AJ f Z Z Z Z Z λa f=>Ab f Z λa f=>Ab f Z λa f=>have m:=m.fr 3;?_)
     obtain⟨d0,d1,m,d2⟩:=Ow.stamp (RSl.mono (RI.mono _)) c2 m
     refine have dZ:=rd1 d1 dZ;Bd dd λd3 d4 dd=>AI f Z call38 (Wk.T0 m d2 d4) λd5 d6 d7 w d8 m d9 a f=> ?_
     obtain⟨ea,eb,rfl,rfl,ec⟩:=d9
     refine have d2:=rd2 d8 d2;have dZ:=rd1 d8 dZ;Ab f Z λa f=>l_o f (AE (f.e Z) Z) λa f=>l_o f (AE (f.e Z) Z) λa f=>AP (cs:=[sn]) zeroValue26 m f Z Z λed w a m f=>Am 0 0 (ds:=[ea]) m sizeOf26 f Z Z Z (Ak (Ow.one1 1 m ec Z) As) Z (lb Z) Z λw m=>Ac f Z λa f=>Ay (Ab f Z λa f=>Aa ?_)
     rcases Af dd with⟨ee,dd⟩|⟨ee,dd⟩
     ·refine Al f Z ee (Aq (AA 0 0 (ds:=[ea]) m AJ f Z Z Z Z Z λa f=>Am 4 0 (ds:=[ea]) m sizeOf26 f Z Z Z (Ak (Ow.one1 1 m ec Z) As) Z (lb Z) Z λw m=>Aa (have m:=m.fr 1;?_)))
      obtain⟨ef,eg,m,eh⟩:=Ow.stamp (RSl.mono (RI.mono _)) ec m
      refine have dZ:=rd1 eg dZ;have m:=m.fr 3;have m:=m.fr 3;have m:=m.fr 3;have m:=m.eraseAt 3;?_
      obtain rfl:=sj dd
      exact⟨_,_,_,_,Z,_,dY,ea,(gt dw (gt dD (gt dP (gt dW (gt d1 (gt d8 eg)))))),f.k Z,m,dZ,eh⟩
     ·refine Ai f Z ee (Ap (have m:=m.fr 4;have m:=m.fr 4;have m:=m.fr 4;have m:Mem W d6 w (eb::BV b0 dR.2.2.1 dR.2.2.2 dY::ib af 26 [sn]::ib a1 26 [bj]::ib ed 26 [ea]::H):=m.fr 4;have m:=m.fr 3;have m:=m.fr 3;have m:=m.fr 3;have m:Mem W d6 w (BV b0 dR.2.2.1 dR.2.2.2 dY::ib af 26 [sn]::ib a1 26 [bj]::eb::H):=m.eraseAt 4;have m:=m.eraseAt 3;?_))
      obtain rfl:=sj dd
      exact⟨_,_,_,_,Z,_,dY,bj,(gt dw (gt dD (gt dP (gt dW (gt d1 d8))))),f.k Z,m,dZ,d2⟩
    ·refine Ai f Z dl (Ap (have m:=m.fr 3;?_))
     obtain⟨ei,ej,m,ek⟩:=Ow.stamp (RSl.mono (RI.mono _)) c2 m
     have db:=rd1 ej db
     obtain rfl:=sj dd
     exact⟨_,_,_,_,Z,_,da,bj,ej,f.k Z,m,db,ek⟩
   ·rintro a w ⟨de,df,dg,dh,rfl,di,dj,dk,el,f,m,em,en⟩
    refine Ag (Ae (Ab f Z λa f=>Bd hd λeo ep hd=>AI f Z call33 (Wk.m m em ep) λeq er es w et m eu a f=> ?_))
    obtain⟨ev,rfl,rfl,ew⟩:=eu
    refine have en:=rd2 et en;Aa (Bd hd λex ey hd=> ?_)
    refine AL (λa w=>∃ez:LI,∃eA:Int,∃eB:Int,∃eC:LL,(ez,eA,eB,eC)=ex∧∃(eD:GH) (eE:Value) (eF:Value),GLe er eD∧Fr a 114 [(0,pb b0),(2,pb af),(3,pb a1)]∧Mem W eD w (ib b0 66 [eE,iv eA,iv eB]::ib af 26 [sn]::ib a1 26 [eF]::H)∧RSl (RI .u8) eD eE ez∧R2 eD eF eC) ?_ ?_
    ·rcases Af ey with⟨eG,ey⟩|⟨eG,ey⟩
     ·refine Al f Z eG (Ae (AA 2 0 (ds:=[dk]) m AJ f Z Z Z Z Z λa f=>Bd ey λeH eI ey=>BP f Z call21 (Wk.O m en eI) λeJ eK eL w eM m eN a f=>have en:=rd2 eM en;have ew:=rd1 eM ew;Ac f Z λa f=>Ay (Ab f Z λa f=>Ab f Z λa f=>Ab f Z λa f=>BJ 0 m eN Z underlying24 f Z Z λa f=>have m:=m.fr 1;Bd ey λeO eP ey=>AI f Z call36 (Wk.a m ew eP) λeQ eR eS w eT m eU a f=> ?_)))
      obtain⟨eV,rfl,rfl,eW⟩:=eU
      refine have eN:=od3 eT eN;have en:=rd2 eT en;Bd ey λeX eY ey=>Bq 1 m eN Z T24 f Z Z Z eY λeZ a e0 f=>BW 1 m eN Z BU f Z Z e0 eY λe1 a e2 f=>Ac f Z λa f=>Aa (Ag (Bd ey λe3 e4 ey=> ?_))
      refine AL (λa w=>∃e5:LL,e5=e3∧∃(e6:GH) (e7:Nat) (e8:Value) (e9:Itm),GLe eR e6∧Fr a 114 [(0,pb b0),(2,pb af),(3,pb a1),(15,pb e7)]∧Mem W e6 w (BV b0 eO.2.2.1 eO.2.2.2 eV::ib af 26 [sn]::ib a1 26 [dk]::ib e7 26 [e8]::e9::H)∧Ow R1 30 e6 e9 e8 e5) ?_ ?_
      ·refine A5 13 AF (by kernel_rfl) m (Cg (i:=0) (ds:=[dk]) 13 3 AJ Z Z Z Z (by kernel_rfl) Z f Z Z Z λa f=>Aj 1 13 Z f Z λa f=>Bd e4 λfa fb e4=>Cd 2 13 T30 e2 fb Z f Z Z λfc fd a fe ff f=> ?_)
       subst ff
       refine B3 3 13 Pl2 fe Z f Z λa f=>Aj 4 13 Z f Z λa f=>Bd e4 λfg fh e4=>Cd 5 13 T30 e2 fh Z f Z Z λfi fj a fk fl f=> ?_
       subst fl
       refine B3 6 13 Pl2 fk Z f Z λa f=>CD (i:=7) (j:=11) (l1:= #[true,true,true,true,true,true,true,true,false,false,false,false,false,false]) (l2:= #[true,true,true,true,true,true,true,false,false,false,false,true,false,false]) Z Z (by kernel_rfl) Z Z ?_ ?_
       ·intro fm w fo m fp fp
        refine have en:=rd2 fo en;Bd e4 λfq fs e4=>AI f Z call39 (Wk.Q m en fs) λft fu fv w fw m fx a f=> ?_
        obtain⟨fy,fz,rfl,rfl,fA⟩:=fx
        refine Aa (fp fu [fz] _ _ fw m (Aj 8 13 Z f Z λa f=>q_p 9 13 Z f (λ_=>AE (f.e Z) Z) λa f=>q_p 10 13 Z f (λ_=>AE (f.e Z) Z) λa f=>Bh 11 Z λfB w fC m fD fD=>have fA:=od3 fC fA;AP (cs:=[sn]) zeroValue26 m f Z Z λfE w a m f=>Aa (fD fB [ib fE 26 [sn],fz] _ _ gr m (Bh 12 Z λfF w fG m fH fH=>have fA:=od3 fG fA;Am 0 0 (ds:=[fy]) m sizeOf26 f Z Z Z (Ak (Ow.one1 1 m fA Z) As) Z (lb Z) Z λw m=>Aa (fH fF [ib fE 26 [fy],fz] _ _ gr m (AO λfI w fJ m=>have fA:=od3 fJ fA;Ac f Z λa f=>Aa (have m:=m.fr 5;have m:=m.fr 5;have m:=m.fr 4;have m:=m.eraseAt 5;?_)))))))
        obtain rfl:=sj e4
        exact⟨_,Z,_,fE,fy,fz,(gt fo (gt fw (gt fC (gt fG fJ)))),f.k Z,m,fA⟩
       ·intro fB w fC m fD fD
        refine Bd e4 λfq fs e4=>have en:=rd2 fC en;AP (cs:=[sn]) zeroValue26 m f Z Z λfE w a m f=>Aa (fD fB [ib fE 26 [sn]] _ _ gr m (Bh 7 Z λfm w fo m fp fp=>have en:=rd2 fo en;AI f Z call39 (Wk.Q m en fs) λft fu fv w fw m fx a f=> ?_))
        obtain⟨fy,fz,rfl,rfl,fA⟩:=fx
        refine Aa (fp fu [fz,ib fE 26 [sn]] _ _ fw m (Aj 8 13 Z f Z λa f=>q_p 9 13 Z f (λ_=>AE (f.e Z) Z) λa f=>q_p 10 13 Z f (λ_=>AE (f.e Z) Z) λa f=>Bh 12 Z λfF w fG m fH fH=>have fA:=od3 fG fA;Am 1 0 (ds:=[fy]) m sizeOf26 f Z Z Z (Ak (Ow.one1 0 m fA Z) As) Z (lb Z) Z λw m=>Aa (fH fF [fz,ib fE 26 [fy]] _ _ gr m (AO λfI w fJ m=>have fA:=od3 fJ fA;Ac f Z λa f=>Aa (have m:=m.fr 1;have m:=m.fr 5;have m:=m.fr 5;have m:Mem W fI w (BV b0 eO.2.2.1 eO.2.2.2 eV::ib af 26 [sn]::ib a1 26 [dk]::ib fE 26 [fy]::fz::eK::H):=m.fr 4;have m:=m.eraseAt 5;?_)))))
        obtain rfl:=sj e4
        exact⟨_,Z,_,fE,fy,fz,(gt fC (gt fo (gt fw (gt fG fJ)))),f.k Z,m,fA⟩
      ·rintro a w ⟨e5,rfl,e6,e7,e8,e9,fK,f,m,fL⟩
       refine have eW:=rd1 fK eW;Aq (AA 3 0 (ds:=[e8]) m AJ f Z Z Z Z Z λa f=>Am 2 0 (ds:=[e8]) m sizeOf26 f Z Z Z (Ak (Ow.one1 4 m fL Z) As) Z (lb Z) Z λw m=>Aa (have m:=m.fr 4;?_))
       obtain⟨fM,fN,m,fO⟩:=Ow.stamp (RSl.mono (RI.mono _)) fL m
       refine have eW:=rd1 fN eW;have m:=m.eraseAt 3;?_
       obtain rfl:=sj ey
       exact⟨_,_,_,_,Z,_,eV,e8,(gt eM (gt eT (gt fK fN))),f.k Z,m,eW,fO⟩
     ·refine Ai f Z eG (Ap ?_)
      obtain rfl:=sj ey
      exact⟨_,_,_,_,Z,_,ev,dk,gr,f.k Z,m,ew,en⟩
    ·rintro a w ⟨ez,eA,eB,eC,rfl,eD,eE,eF,fP,f,m,fQ,fR⟩
     refine Ag (Ae (Ab f Z λa f=>Bd hd λfS fT hd=>AI f Z call33 (Wk.m m fQ fT) λfU fV fW w fX m fY a f=> ?_))
     obtain⟨fZ,rfl,rfl,f0⟩:=fY
     refine have fR:=rd2 fX fR;Aa ?_
     rcases Af hd with⟨f1,hd⟩|⟨f1,hd⟩
     ·refine Al f Z f1 (Ag (Bd hd λf2 f3 hd=> ?_))
      refine AL (λa w=>∃f4:LL,∃f5:Bool,∃f6:LI,∃f7:Int,∃f8:Int,(f4,f5,f6,f7,f8)=f2∧∃(f9:GH) (ga:Nat) (gb:Value) (gc:Itm) (gd:Value),GLe fV f9∧Fr a 114 [(2,pb af),(3,pb a1),(17,pb ga),(18,(.bool f5))]∧Mem W f9 w (ib af 26 [sn]::ib a1 26 [eF]::ib b0 66 [gd,iv f7,iv f8]::ib ga 26 [gb]::gc::H)∧Ow R1 30 f9 gc gb f4∧RSl (RI .u8) f9 gd f6) ?_ ?_
      ·refine DY [BV b0 fS.2.2.1 fS.2.2.2 fZ] (ib af 26 [sn]::ib a1 26 [eF]::H) 10 AF (by kernel_rfl) m (Cg (i:=0) (ds:=[eF]) 10 1 AJ Z Z Z Z (by kernel_rfl) Z f Z Z Z λa f=>Aj 1 10 Z f Z λa f=>Cg (i:=2) (ds:=[eF]) 10 1 AJ Z Z Z Z (by kernel_rfl) Z f Z Z Z λa f=>CD (i:=3) (j:=8) (l1:= #[true,true,true,true,false,false,false,false,false,false,false]) (l2:= #[true,true,true,false,false,false,false,false,true,false,false]) Z Z (by kernel_rfl) Z Z ?_ ?_)
       ·intro ge w gf m gg gg
        refine have fR:=rd2 gf fR;have f0:=rd1 gf f0;Bd f3 λgh gi f3=>AI f Z call41 (Wk.L0 m f0 fR gi) λgj gk gl w gm m gn a f=> ?_
        obtain⟨go,gp,gq,rfl,rfl,gs,gu⟩:=gn
        refine have fR:=rd2 gm fR;Aa (gg gk [gp,BV b0 gh.2.2.1 gh.2.2.2 gq] _ _ gm m (CD (i:=4) (j:=8) (l1:= #[true,true,true,true,true,false,false,false,false,false,false]) (l2:= #[true,true,true,true,false,false,false,false,true,false,false]) Z Z (by kernel_rfl) Z Z ?_ ?_))
        ·intro gv w gw m gx gx
         refine have fR:=rd2 gw fR;have gs:=od1 gw gs;have gu:=rd1 gw gu;?_
         obtain⟨gy,gz,m,gA⟩:=Ow.stamp (RI.mono _) gs m
         refine have fR:=rd2 gz fR;have gu:=rd1 gz gu;Bd f3 λgB gC f3=>AI f Z call40 (Wk.y0 m fR gA gC) λgD gE gF w gG m gH a f=> ?_
         obtain⟨gI,gJ,rfl,rfl,gK⟩:=gH
         refine have gu:=rd1 gG gu;Aa (gx gE [gJ,BV b0 gh.2.2.1 gh.2.2.2 gq] _ _ (gt gz gG) m (Aj 5 10 Z f Z λa f=>q_p 6 10 Z f (λ_=>AE (f.e Z) Z) λa f=>q_p 7 10 Z f (λ_=>AE (f.e Z) Z) λa f=>Bh 8 Z λgL w gM m gN gN=>have gK:=od3 gM gK;have gu:=rd1 gM gu;AP (cs:=[sn]) zeroValue26 m f Z Z λgO w a m f=>Aa (gN gL [ib gO 26 [sn],gJ,BV b0 gh.2.2.1 gh.2.2.2 gq] _ _ gr m (Bh 9 Z λgP w gQ m gR gR=>have gK:=od3 gQ gK;have gu:=rd1 gQ gu;Am 0 0 (ds:=[gI]) m sizeOf26 f Z Z Z (Ak (Ow.one1 1 m gK Z) As) Z (lb Z) Z λw m=>Aa (gR gP [ib gO 26 [gI],gJ,BV b0 gh.2.2.1 gh.2.2.2 gq] _ _ gr m (AO λgS w gT m=>have gK:=od3 gT gK;have gu:=rd1 gT gu;Ac f Z λa f=>Aa (have m:=m.fr 2;have m:=m.fr 4;have m:=m.fr 4;?_)))))))
         obtain rfl:=sj f3
         exact⟨_,_,_,_,_,Z,_,gO,gI,gJ,gq,(gt gf (gt gm (gt gw (gt gz (gt gG (gt gM (gt gQ gT))))))),f.k Z,m,gK,gu⟩
        ·intro gL w gM m gN gN
         refine Bd f3 λgB gC f3=>have fR:=rd2 gM fR;have gs:=od1 gM gs;have gu:=rd1 gM gu;AP (cs:=[sn]) zeroValue26 m f Z Z λgO w a m f=>Aa (gN gL [ib gO 26 [sn],gp,BV b0 gh.2.2.1 gh.2.2.2 gq] _ _ gr m (Bh 4 Z λgv w gw m gx gx=>have fR:=rd2 gw fR;have gs:=od1 gw gs;have gu:=rd1 gw gu;have m:=m.fr 1;?_))
         obtain⟨gy,gz,m,gA⟩:=Ow.stamp (RI.mono _) gs m
         refine have fR:=rd2 gz fR;have gu:=rd1 gz gu;AI f Z call40 (Wk.y0 m fR gA gC) λgD gE gF w gG m gH a f=> ?_
         obtain⟨gI,gJ,rfl,rfl,gK⟩:=gH
         refine have gu:=rd1 gG gu;Aa (gx gE [gJ,ib gO 26 [sn],BV b0 gh.2.2.1 gh.2.2.2 gq] _ _ (gt gz gG) m (Aj 5 10 Z f Z λa f=>q_p 6 10 Z f (λ_=>AE (f.e Z) Z) λa f=>q_p 7 10 Z f (λ_=>AE (f.e Z) Z) λa f=>Bh 9 Z λgP w gQ m gR gR=>have gK:=od3 gQ gK;have gu:=rd1 gQ gu;Am 1 0 (ds:=[gI]) m sizeOf26 f Z Z Z (Ak (Ow.one1 0 m gK Z) As) Z (lb Z) Z λw m=>Aa (gR gP [gJ,ib gO 26 [gI],BV b0 gh.2.2.1 gh.2.2.2 gq] _ _ gr m (AO λgS w gT m=>have gK:=od3 gT gK;have gu:=rd1 gT gu;Ac f Z λa f=>Aa (have m:=m.fr 1;have m:=m.fr 2;have m:=m.fr 4;have m:=m.fr 4;?_)))))
         obtain rfl:=sj f3
         exact⟨_,_,_,_,_,Z,_,gO,gI,gJ,gq,(gt gf (gt gm (gt gM (gt gw (gt gz (gt gG (gt gQ gT))))))),f.k Z,m,gK,gu⟩
       ·intro gL w gM m gN gN
        refine Bd f3 λgh gi f3=>Bd f3 λgB gC f3=>have fR:=rd2 gM fR;have f0:=rd1 gM f0;AP (cs:=[sn]) zeroValue26 m f Z Z λgO w a m f=>Aa (gN gL [ib gO 26 [sn],BV b0 fS.2.2.1 fS.2.2.2 fZ] _ _ gr m (Bh 3 Z λge w gf m gg gg=>have fR:=rd2 gf fR;have f0:=rd1 gf f0;have m:=m.fr 1;AI f Z call41 (Wk.L0 m f0 fR gi) λgj gk gl w gm m gn a f=> ?_))
        obtain⟨go,gp,gq,rfl,rfl,gs,gu⟩:=gn
        refine have fR:=rd2 gm fR;Aa (gg gk [gp,BV b0 gh.2.2.1 gh.2.2.2 gq,ib gO 26 [sn]] _ _ gm m (Bh 4 Z λgv w gw m gx gx=>have fR:=rd2 gw fR;have gs:=od1 gw gs;have gu:=rd1 gw gu;?_))
        obtain⟨gy,gz,m,gA⟩:=Ow.stamp (RI.mono _) gs m
        refine have fR:=rd2 gz fR;have gu:=rd1 gz gu;AI f Z call40 (Wk.y0 m fR gA gC) λgD gE gF w gG m gH a f=> ?_
        obtain⟨gI,gJ,rfl,rfl,gK⟩:=gH
        refine have gu:=rd1 gG gu;Aa (gx gE [gJ,BV b0 gh.2.2.1 gh.2.2.2 gq,ib gO 26 [sn]] _ _ (gt gz gG) m (Aj 5 10 Z f Z λa f=>q_p 6 10 Z f (λ_=>AE (f.e Z) Z) λa f=>q_p 7 10 Z f (λ_=>AE (f.e Z) Z) λa f=>Bh 9 Z λgP w gQ m gR gR=>have gK:=od3 gQ gK;have gu:=rd1 gQ gu;Am 2 0 (ds:=[gI]) m sizeOf26 f Z Z Z (Ak (Ow.one1 0 m gK Z) As) Z (lb Z) Z λw m=>Aa (gR gP [gJ,BV b0 gh.2.2.1 gh.2.2.2 gq,ib gO 26 [gI]] _ _ gr m (AO λgS w gT m=>have gK:=od3 gT gK;have gu:=rd1 gT gu;Ac f Z λa f=>Aa (have m:=m.fr 2;have m:=m.fr 2;have m:=m.fr 4;have m:=m.fr 4;?_)))))
        obtain rfl:=sj f3
        exact⟨_,_,_,_,_,Z,_,gO,gI,gJ,gq,(gt gM (gt gf (gt gm (gt gw (gt gz (gt gG (gt gQ gT))))))),f.k Z,m,gK,gu⟩
      ·rintro a w ⟨f4,f5,f6,f7,f8,rfl,f9,ga,gb,gc,gd,gU,f,m,gV,gW⟩
       refine have fR:=rd2 gU fR;Ae (Ab f Z λa f=>Aa ?_)
       rcases Af hd with⟨gX,hd⟩|⟨gX,hd⟩
       ·refine Al f Z gX (Aq (AA 3 0 (ds:=[gb]) m AJ f Z Z Z Z Z λa f=>Am 1 0 (ds:=[gb]) m sizeOf26 f Z Z Z (Ak (Ow.one1 4 m gV Z) As) Z (lb Z) Z λw m=>Ay (AA 1 0 (ds:=[gb]) m AJ f Z Z Z Z Z λa f=>Am 0 0 (ds:=[gb]) m sizeOf26 f Z Z Z (Ak (Ow.one1 4 m gV Z) As) Z (lb Z) Z λw m=>Aa (Ar (have m:=m.fr 4;?_)))))
        obtain⟨gY,gZ,m,g0⟩:=Ow.stamp (RSl.mono (RI.mono _)) gV m
        refine have gW:=rd1 gZ gW;have g1:=Bi (P:=prog) 0 m AJ f (s:=2) rfl rfl rfl;have m:=m.fr 2;have m:=m.eraseAt 3;have m:=m.eraseAt 2;have m:=m.eraseAt 1;?_
        obtain rfl:=sj hd
        exact⟨[(.agg #[gb])],⟨g1,trivial⟩,f.d,_,[ib b0 66 [gd,iv f7,iv f8]],(gt al (gt aN (gt aW (gt a7 (gt c0 (gt c8 (gt el (gt et (gt fP (gt fX (gt gU gZ))))))))))),m,_,_,Z,Z,g0,gW⟩
       ·refine Ai f Z gX (Ap (Ae (AA 1 0 (ds:=[eF]) m AJ f Z Z Z Z Z λa f=>Am 0 0 (ds:=[eF]) m sizeOf26 f Z Z Z (Ak fR.one1 As) Z (lb Z) Z λw m=>Aa (Ar (have g2:=Bi (P:=prog) 0 m AJ f (s:=2) rfl rfl rfl;have m:=m.fr 2;have m:=m.fr 4;have m:=m.fr 1;have m:Mem W f9 w (ib b0 66 [gd,iv f7,iv f8]::gc::ib af 26 [eF]::ib a1 26 [eF]::H):=m.eraseAt 4;have m:=m.eraseAt 3;have m:=m.eraseAt 2;have m:=m.eraseAt 1;?_)))))
        obtain rfl:=sj hd
        exact⟨[(.agg #[eF])],⟨g2,trivial⟩,f.d,_,[ib b0 66 [gd,iv f7,iv f8]],(gt al (gt aN (gt aW (gt a7 (gt c0 (gt c8 (gt el (gt et (gt fP (gt fX gU)))))))))),m,_,_,Z,Z,fR,gW⟩
     ·refine Ai f Z f1 (Ap (Ae (AA 2 0 (ds:=[eF]) m AJ f Z Z Z Z Z λa f=>Am 1 0 (ds:=[eF]) m sizeOf26 f Z Z Z (Ak fR.one1 As) Z (lb Z) Z λw m=>Aa (Ar (have g3:=Bi (P:=prog) 1 m AJ f (s:=2) rfl rfl rfl;have m:=m.eraseAt 2;have m:=m.eraseAt 1;?_)))))
      obtain rfl:=sj hd
      exact⟨[(.agg #[eF])],⟨g3,trivial⟩,f.d,_,[BV b0 fS.2.2.1 fS.2.2.2 fZ],(gt al (gt aN (gt aW (gt a7 (gt c0 (gt c8 (gt el (gt et (gt fP fX))))))))),m,_,_,Z,Z,fR,f0⟩
theorem Wk.d1 {v0:Value}{x0:LI}(m:Mem W G w (H))(h0:RSl (RI .u8) G v0 x0){y:(LL)}(hd:D.d1 x0=some y):
  Calls prog 5 #[v0] w (Res W G H (λG' Ho v=>∃r0:Value,Ho=[]∧v=(.agg #[r0])∧R2 G' r0 y)):=by
 refine Au (args:=[v0]) (N:=8) [.cell 2 26] func5 Z Z (lb Z) Z λa f=> ?_
 unfold D.d1 at hd
 refine Ae (AP (cs:=[sn]) zeroValue26 m f Z Z λaa w a m f=>Ay (Ab f Z λa f=>Bd hd λab ac hd=>AI f Z call15 (Wk.x1 m h0 ac) λad ae af w ag m ah a f=> ?_))
 obtain⟨ai,aj,rfl,rfl,ak⟩:=ah
 refine Ac f Z λa f=>Ay (Ab f Z λa f=>Bd hd λal am hd=>AI f Z call16 (Wk.X m ak am) λan ao ap w aq m ar a f=> ?_)
 obtain⟨au,av,rfl,rfl,aw,ax⟩:=ar
 refine Am 1 0 (ds:=[au]) m sizeOf26 f Z Z Z (Ak aw.one1 As) Z (lb Z) Z λw m=>Aa (Ar (have ay:=Bi (P:=prog) 1 m AJ f (s:=2) rfl rfl rfl;have m:=m.dp 2;?_))
 obtain rfl:=sj hd
 exact⟨[(.agg #[au])],⟨ay,trivial⟩,f.d,_,[],(gt ag aq),m,_,Z,Z,aw⟩
theorem Wk.P1 {aa:Value}{ab:LL}(m:Mem W G w (H))(ac:R2 G aa ab){y:(LL)}(hd:D.P1 ab=some y):
  Calls prog 7 #[(.agg #[aa])] w (Res W G H (λG' Ho v=>∃r0:Value,∃i0:Itm,Ho=[i0]∧r0=v∧Ow R1 30 G' i0 r0 y)):=by
 refine Au (args:=[(.agg #[aa])]) (N:=9) [.tmp 2] func7 Z Z (lb Z) Z λa f=> ?_
 unfold D.P1 at hd
 refine Ae (Bz (cs:=[aa]) m f Z Z Z λad w a m f=>Ac f Z λa f=>Aa (Ag (Ae (AA 0 0 (ds:=[aa]) m AJ f Z Z Z Z Z λa f=>Bd hd λae af hd=>Bj f Z call6 (Wk.q m ac af) λag w ah m a f=>have ac:=rd2 ah ac;l_o f (BN (f.e Z)) λa f=>Aa ?_))))
 rcases Af hd with⟨ai,hd⟩|⟨ai,hd⟩
 ·refine Al f Z ai (Ae (A9 (R:=R1) (xs:=([]:LL)) (RSl.one _) m T24 f Z Z Z (by decide) (All2.nil _) λaj ak w a m al f=>Ac f Z λa f=>Aa (Ar (have m:=m.eraseAt 1;?_))))
  obtain rfl:=sj hd
  exact⟨[ak],f.g Z,f.d,_,[aj],ah,m,_,_,Z,Z,al⟩
 ·refine Ai f Z ai (Ap (Ae (AA 0 0 (ds:=[aa]) m AJ f Z Z Z Z Z λa f=>Bd hd λam an hd=>BP f Z call21 (Wk.O m ac an) λao ap aq w ar m au a f=>Ac f Z λa f=>Aa (Ar (have m:=m.eraseAt 1;?_)))))
  obtain rfl:=sj hd
  exact⟨[ao],f.g Z,f.d,_,[ap],(gt ah ar),m,_,_,Z,Z,au⟩
theorem Wk.z {x0:Int}(m:Mem W G w (H)){y:Int×Int}(hd:D.z x0=some y):
  Calls prog 42 #[iv x0] w (Res W G H (λ_ Ho v=>Ho=[]∧v= .tuple #[iv y.1,iv y.2])):=by
 refine Au (args:=[iv x0]) (N:=13) [.tmp 2,.tmp 3] func42 Z Z (lb Z) Z λa f=> ?_
 unfold D.z at hd
 refine Ae (Ac f Z λa f=>Ac f Z λa f=>Aa (Ag (Ae (Ab f Z λa f=>Aa (Ao (Ae (Ah f Z Z BA λa f=>Ac f Z λa f=>Aa ?_)))))))
 rcases Af hd with⟨aa,hd⟩|⟨aa,hd⟩
 ·refine Al f Z aa (Ae (Ac f Z λa f=>Ac f Z λa f=>Aa (Ar ?_)))
  obtain rfl:=sj hd
  exact⟨[iv 5,iv 0],⟨f.get _ _ Z,f.get _ _ Z,trivial⟩,f.d,_,[],gr,m,Z,Z⟩
 ·refine Ai f Z aa (Ae (Ah f Z Z BA λa f=>Ac f Z λa f=>Aa ?_))
  rcases Af hd with⟨ab,hd⟩|⟨ab,hd⟩
  ·refine Al f Z ab (Ae (Ac f Z λa f=>Ac f Z λa f=>Aa (Ar ?_)))
   obtain rfl:=sj hd
   exact⟨[iv 3,iv 3],⟨f.get _ _ Z,f.get _ _ Z,trivial⟩,f.d,_,[],gr,m,Z,Z⟩
  ·refine Ai f Z ab (Ae (Ah f Z Z BA λa f=>Ac f Z λa f=>Aa ?_))
   rcases Af hd with⟨ac,hd⟩|⟨ac,hd⟩
   ·refine Al f Z ac (Ae (Ac f Z λa f=>Ac f Z λa f=>Aa (Ar ?_)))
    obtain rfl:=sj hd
    exact⟨[iv 4,iv 0],⟨f.get _ _ Z,f.get _ _ Z,trivial⟩,f.d,_,[],gr,m,Z,Z⟩
   ·refine Ai f Z ac (Ae (Ah f Z Z BA λa f=>Ac f Z λa f=>Aa ?_))
    rcases Af hd with⟨ad,hd⟩|⟨ad,hd⟩
    ·refine Al f Z ad (Ae (Ac f Z λa f=>Ac f Z λa f=>Aa (Ar ?_)))
     obtain rfl:=sj hd
     exact⟨[iv 2,iv 3],⟨f.get _ _ Z,f.get _ _ Z,trivial⟩,f.d,_,[],gr,m,Z,Z⟩
    ·refine Ai f Z ad (Ap (Ae (Ac f Z λa f=>Ac f Z λa f=>Aa (Ar ?_))))
     obtain rfl:=sj hd
     exact⟨[iv 0,iv 0],⟨f.get _ _ Z,f.get _ _ Z,trivial⟩,f.d,_,[],gr,m,Z,Z⟩
theorem Wk.A0 {x0 x1 x2:Int}(m:Mem W G w (H)){y:Bool}(hd:D.A0 x0 x1 x2=some y):
  Calls prog 23 #[iv x0,iv x1,iv x2] w (Res W G H (λ_ Ho v=>Ho=[]∧v=(.bool y))):=by
 refine Au (args:=[iv x0,iv x1,iv x2]) (N:=15) [.tmp 6] func23 Z Z (lb Z) Z λa f=> ?_
 unfold D.A0 at hd
 refine Ae (Ac f Z λa f=>Ay (Ab f Z λa f=>Ab f Z λa f=>Ah f Z Z CL λa f=>Ab f Z λa f=> ?_))
 refine BF 4 (λa w=>∃aa,GLe G aa∧Mem W aa w (H)∧Fr a 15 [(0,iv x0),(1,iv x1),(2,iv x2),(7,iv x1),(8,iv x0),(9,(.bool (decide (x1≤x0)))),(10,(.bool (decide (x1≤x0)))),(14,(.bool ((decide (x1≤x0))&&(decide (x0≤x2)))))]) ?_ ?_
 ·rcases Bool.eq_false_or_eq_true (decide (x1≤x0)) with ab|ab
  ·exact AB f ab (Ab f Z λa f=>AB f ab (Ab f Z λa f=>AB f ab (Ah f Z Z CL λa f=>l_o f (AY (f.e Z) ab (f.e Z)) λa f=>⟨_,gr,m,f.weak ⟨Z,Z,Z,Z,Z,Z,Z,by rw[ab];rfl,trivial⟩⟩)))
  ·exact AC f ab λa f=>AC f ab λa f=>AC f ab λa f=>l_o f (AX (f.e Z) ab (f.e Z)) λa f=>⟨_,gr,m,f.weak ⟨Z,Z,Z,Z,Z,Z,Z,by rw[ab];rfl,trivial⟩⟩
 ·rintro a w ⟨aa,ac,m,f⟩
  refine Ac f Z λa f=>Aa (Ar ?_)
  obtain rfl:=sj hd
  exact⟨[(.bool ((decide (x1≤x0))&&(decide (x0≤x2))))],f.g Z,f.d,_,[],ac,m,Z,Z⟩
theorem Wk.h1 {v0:Value}{x0:LI}{x1:Int}(m:Mem W G w (H))(h0:R1 G v0 x0){y:Bool}(hd:D.h1 x0 x1=some y):
  Calls prog 98 #[v0,iv x1] w (Res W G H (λ_ Ho v=>Ho=[]∧v=(.bool y))):=by
 refine Au (args:=[v0,iv x1]) (N:=33) [.tmp 4] func98 Z Z (lb Z) Z λa f=> ?_
 unfold D.h1 at hd
 refine Ae (Ac f Z λa f=>Aa (Ag (Ae (Ab f Z λa f=>Bg underlying30 f Z Z h0 λa f=>Ab f Z λa f=>Aa (Bd hd λaa ab hd=> ?_)))))
 refine AL (λa w=>∃q_181':Unit,aa= .inl q_181'∧∃(ac:GH),GLe G ac∧Fr a 33 []∧Mem W ac w (H)) ?_ ?_
 ·refine Ao (AM (λad a w=>∃ae:Int,ae=ad∧∃(af:GH),GLe G af∧Fr a 33 [(0,v0),(1,iv x1),(7,v0),(8,(iv (x0.length:Int))),(9,iv ae)]∧Mem W af w (H)) ab ⟨_,Z,_,gr,f.k Z,m⟩ ?_)
  clear ab f m
  rintro ad ag ah ai a w ⟨ae,rfl,af,aj,f,m⟩
  refine have h0:=rd1 aj h0;Ae (Ah f Z Z AV λa f=>Aa (Ag ?_))
  rcases Af ah with⟨ak,ah⟩|⟨ak,ah⟩
  ·refine Al f Z ak (Ap (Ag (Ao (Ae (Ab f Z λa f=>Bd ah λal am ah=>BI T30 f Z Z Z h0 am λan ao a ap aq f=> ?_)))))
   subst aq
   refine A3 m Pl2 f Z Z ap λa f=>Ac f Z λa f=>Ac f Z λa f=>Ay (Ab f Z λa f=>Ab f Z λa f=>Ah f Z Z Be λa f=>Bd ah λar au ah=>Bj f Z call23 (Wk.A0 m au) λav w aw m a f=>have h0:=rd1 aw h0;l_o f (BN (f.e Z)) λa f=>Ab f Z λa f=>Bd ah λax ay ah=> ?_)
   refine BF 12 (λa w=>∃az,GLe av az∧Mem W az w (H)∧Fr a 33 [(0,v0),(1,iv x1),(5,iv ae),(6,iv al),(7,v0),(8,(iv (x0.length:Int))),(9,iv ae),(14,iv al),(15,iv x1),(16,(iv (i64.wrap (x1-1)))),(17,(.bool ar)),(18,(.bool (!ar))),(19,(.bool (!ar))),(31,(.bool ax))]) ?_ ?_
   ·rcases Af ay with⟨aA,ay⟩|⟨aA,ay⟩
    ·refine AC f aA λa f=>AC f aA λa f=>AC f aA λa f=>C6 f Z Z Z λa f=>C6 f Z Z Z λa f=>C6 f Z Z Z λa f=>C6 f Z Z Z λa f=>C6 f Z Z Z λa f=>C6 f Z Z Z λa f=>C6 f Z Z Z λa f=>AC f aA λa f=>l_o f (AY (f.e Z) aA (f.e Z)) λa f=> ?_
     obtain rfl:=sj ay
     exact⟨_,gr,m,f.k Z⟩
    ·refine AB f aA (Ab f Z λa f=>AB f aA (Ah f Z Z Ci λa f=>AB f aA (Ab f Z λa f=>Bd ay λaB aC ay=> ?_)))
     refine BF 8 (λa w=>∃aD,GLe av aD∧Mem W aD w (H)∧Fr a 33 [(0,v0),(1,iv x1),(5,iv ae),(6,iv al),(7,v0),(8,(iv (x0.length:Int))),(9,iv ae),(14,iv al),(15,iv x1),(16,(iv (i64.wrap (x1-1)))),(17,(.bool ar)),(18,(.bool (!ar))),(19,(.bool (!ar))),(20,iv ae),(21,(.bool (decide ((0:Int)<ae)))),(22,(.bool (decide ((0:Int)<ae)))),(30,(.bool aB))]) ?_ ?_
     ·rcases Af aC with⟨aE,aC⟩|⟨aE,aC⟩
      ·refine AB f aE (Ab f Z λa f=>AB f aE (Ab f Z λa f=>AB f aE (Ah f Z Z Be λa f=>AB f aE (Bd aC λaF aG aC=>BI T30 f Z Z Z h0 aG λaH aI a aJ aK f=> ?_))))
       subst aK
       refine AB f aE (A3 m Pl2 f Z Z aJ λa f=>AB f aE (Ab f Z λa f=>AB f aE (Ah f Z Z CC λa f=>AB f aA (l_o f (AY (f.e Z) aE (f.e Z)) λa f=> ?_))))
       obtain rfl:=sj aC
       exact⟨_,gr,m,f.k Z⟩
      ·refine AC f aE λa f=>AC f aE λa f=>AC f aE λa f=>AC f aE λa f=>AC f aE λa f=>AC f aE λa f=>AC f aE λa f=>AB f aA (l_o f (AX (f.e Z) aE (f.e Z)) λa f=> ?_)
       obtain rfl:=sj aC
       exact⟨_,gr,m,f.k Z⟩
     ·rintro a w ⟨aD,aL,m,f⟩
      refine l_o f (AX (f.e Z) aA (f.e Z)) λa f=> ?_
      obtain rfl:=sj ay
      exact⟨_,aL,m,f.k Z⟩
   ·rintro a w ⟨az,aM,m,f⟩
    refine Aa ?_
    rcases Af ah with⟨aN,ah⟩|⟨aN,ah⟩
    ·refine Al f Z aN (Ae (Ac f Z λa f=>Aa (Ar ?_)))
     obtain rfl:=sj ah
     obtain rfl:=ai _ rfl
     obtain rfl:=sj hd
     exact⟨[(.bool false)],f.g Z,f.d,_,[],(gt aj (gt aw aM)),m,Z,Z⟩
    ·refine Ai f Z aN (Ap (Aq (Ah f Z Z Ax λa f=>Ab f Z λa f=>Aa ?_)))
     obtain rfl:=sj ah
     exact⟨_,Z,_,Z,_,(gt aj (gt aw aM)),f.k Z,m⟩
  ·refine Ai f Z ak (AK Z ?_)
   obtain rfl:=sj ah
   obtain rfl:=ai _ rfl
   exact⟨_,Z,_,aj,f.weak trivial,m⟩
 ·rintro a w ⟨_,rfl,ac,aO,f,m⟩
  refine Ae (Ac f Z λa f=>Aa (Ar ?_))
  obtain rfl:=sj hd
  exact⟨[(.bool true)],f.g Z,f.d,_,[],aO,m,Z,Z⟩
theorem Wk.M0 {aa:Value}{ab:LL}(m:Mem W G w (H))(ac:R2 G aa ab){y:Bool}(hd:D.M0 ab=some y):
  Calls prog 73 #[(.agg #[aa])] w (Res W G H (λ_ Ho v=>Ho=[]∧v=(.bool y))):=by
 refine Au (args:=[(.agg #[aa])]) (N:=61) [.tmp 2] func73 Z Z (lb Z) Z λa f=> ?_
 unfold D.M0 at hd
 refine Ae (Bz (cs:=[aa]) m f Z Z Z λad w a m f=>Ac f Z λa f=>Ay (Bu underlying26 Z sizeOf24 f Z λa f=>AG 0 0 m BC f Z Z Z Z λa f=>Bg underlying24 f Z Z ac λa f=>Ac f Z λa f=>Aa (Ag (Ae (Ab f Z λa f=>Ah f Z Z AV λa f=>Ab f Z λa f=> ?_)))))
 refine BF 3 (λa w=>∃ae,GLe G ae∧Mem W ae w (ib ad 26 [aa]::H)∧Fr a 61 [(0,(.agg #[aa])),(1,pb ad),(3,(iv (ab.length:Int))),(13,(iv (ab.length:Int))),(14,(.bool (decide ((ab.length:Int)<1)))),(15,(.bool (decide ((ab.length:Int)<1)))),(18,(.bool ((decide ((ab.length:Int)<1))||(decide ((16:Int)<(ab.length:Int))))))]) ?_ ?_
 ·rcases Bool.eq_false_or_eq_true (decide ((ab.length:Int)<1)) with af|af
  ·exact AC f af λa f=>AC f af λa f=>l_o f (AY (f.e Z) af (f.e Z)) λa f=>⟨_,gr,m,f.weak ⟨Z,Z,Z,Z,Z,Z,by rw[af];rfl,trivial⟩⟩
  ·exact AB f af (Ab f Z λa f=>AB f af (Ah f Z Z Ci λa f=>l_o f (AX (f.e Z) af (f.e Z)) λa f=>⟨_,gr,m,f.weak ⟨Z,Z,Z,Z,Z,Z,by rw[af];rfl,trivial⟩⟩))
 ·rintro a w ⟨ae,ag,m,f⟩
  refine have ac:=rd2 ag ac;Aa ?_
  rcases Af hd with⟨ah,hd⟩|⟨ah,hd⟩
  ·refine Al f Z ah (Ae (Ac f Z λa f=>Aa (Ar (have m:=m.dp 1;?_))))
   obtain rfl:=sj hd
   exact⟨[(.bool false)],f.g Z,f.d,_,[],ag,m,Z,Z⟩
  ·refine Ai f Z ah (Ap (Ag (Ae (Bu underlying26 Z sizeOf24 f Z λa f=>AG 0 0 m BC f Z Z Z Z λa f=>Bg underlying24 f Z Z ac λa f=>Ab f Z λa f=>Aa (Bd hd λai aj hd=> ?_)))))
   refine AL (λa w=>∃q_91':Unit,ai= .inl q_91'∧∃(ak:GH),GLe ae ak∧Fr a 61 [(1,pb ad)]∧Mem W ak w (ib ad 26 [aa]::H)) ?_ ?_
   ·refine Ao (AM (λal a w=>∃am:Int,am=al∧∃(an:GH),GLe ae an∧Fr a 61 [(1,pb ad),(3,(iv (ab.length:Int))),(20,aa),(21,(iv (ab.length:Int))),(22,iv am)]∧Mem W an w (ib ad 26 [aa]::H)) aj ⟨_,Z,_,gr,f.k Z,m⟩ ?_)
    clear aj f m
    rintro al ao ap aq a w ⟨am,rfl,an,ar,f,m⟩
    refine have ac:=rd2 ar ac;Ae (Ah f Z Z AV λa f=>Aa (Ag ?_))
    rcases Af ap with⟨au,ap⟩|⟨au,ap⟩
    ·refine Al f Z au (Ap (Ag (Ao (Ae (Ab f Z λa f=>Bd ap λav aw ap=>BI T24 f Z Z Z ac aw λax ay a az aA f=>A3 m BU f Z Z az λa f=>Ac f Z λa f=>Ac f Z λa f=>Ay (Ab f Z λa f=>Ab f Z λa f=>Bd ap λaB aC ap=>Bj f Z call98 (Wk.h1 m aA aC) λaD w aE m a f=>have aA:=rd1 aE aA;l_o f (BN (f.e Z)) λa f=>Ab f Z λa f=>Bd ap λaF aG ap=> ?_))))))
     refine BF 4 (λa w=>∃aH,GLe aD aH∧Mem W aH w (ib ad 26 [aa]::H)∧Fr a 61 [(1,pb ad),(3,(iv (ab.length:Int))),(4,iv am),(5,ay),(20,aa),(21,(iv (ab.length:Int))),(22,iv am),(27,ay),(28,(iv (ab.length:Int))),(29,(.bool aB)),(30,(.bool (!aB))),(31,(.bool (!aB))),(35,(.bool aF))]) ?_ ?_
     ·rcases Af aG with⟨aI,aG⟩|⟨aI,aG⟩
      ·refine AC f aI λa f=>AC f aI λa f=>AC f aI λa f=>l_o f (AY (f.e Z) aI (f.e Z)) λa f=> ?_
       obtain rfl:=sj aG
       exact⟨_,gr,m,f.k Z⟩
      ·refine AB f aI (Ab f Z λa f=>AB f aI (Ab f Z λa f=>AB f aI (Bd aG λaJ aK aG=>Bj f Z call48 (Wk.k0 m aA aK) λaL w aM m a f=>l_o f (AX (f.e Z) aI (f.e Z)) λa f=> ?_)))
       obtain rfl:=sj aG
       exact⟨_,aM,m,f.k Z⟩
     ·rintro a w ⟨aH,aN,m,f⟩
      refine Aa ?_
      rcases Af ap with⟨aO,ap⟩|⟨aO,ap⟩
      ·refine Al f Z aO (Ae (Ac f Z λa f=>Aa (Ar (have m:=m.dp 1;?_))))
       obtain rfl:=sj ap
       obtain rfl:=aq _ rfl
       obtain rfl:=sj hd
       exact⟨[(.bool false)],f.g Z,f.d,_,[],(gt ag (gt ar (gt aE aN))),m,Z,Z⟩
      ·refine Ai f Z aO (Ap (Aq (Ah f Z Z Ax λa f=>Ab f Z λa f=>Aa ?_)))
       obtain rfl:=sj ap
       exact⟨_,Z,_,Z,_,(gt ar (gt aE aN)),f.k Z,m⟩
    ·refine Ai f Z au (AK Z ?_)
     obtain rfl:=sj ap
     obtain rfl:=aq _ rfl
     exact⟨_,Z,_,ar,f.k Z,m⟩
   ·rintro a w ⟨_,rfl,ak,aP,f,m⟩
    refine have ac:=rd2 aP ac;Ag (Ae (Bu underlying26 Z sizeOf24 f Z λa f=>AG 0 0 m BC f Z Z Z Z λa f=>Bg underlying24 f Z Z ac λa f=>Ab f Z λa f=>Aa (Bd hd λaQ aR hd=> ?_)))
    refine AL (λa w=>∃q_394':Unit,aQ= .inl q_394'∧∃(aS:GH),GLe ak aS∧Fr a 61 []∧Mem W aS w (H)) ?_ ?_
    ·refine Ao (AM (λaT a w=>∃aU:Int,aU=aT∧∃(aV:GH),GLe ak aV∧Fr a 61 [(1,pb ad),(38,aa),(39,(iv (ab.length:Int))),(40,iv aU)]∧Mem W aV w (ib ad 26 [aa]::H)) aR ⟨_,Z,_,gr,f.k Z,m⟩ ?_)
     clear aR f m
     rintro aT aW aX aY a w ⟨aU,rfl,aV,aZ,f,m⟩
     refine have ac:=rd2 aZ ac;Ae (Ah f Z Z AV λa f=>Aa (Ag ?_))
     rcases Af aX with⟨a0,aX⟩|⟨a0,aX⟩
     ·refine Al f Z a0 (Ap (Ag (Ao (Ae (Ab f Z λa f=>Bd aX λa1 a2 aX=>BI T24 f Z Z Z ac a2 λa3 a4 a a5 a6 f=>A3 m BU f Z Z a5 λa f=>Ac f Z λa f=>Ac f Z λa f=>Ay (Ab f Z λa f=>Bg underlying30 f Z Z a6 λa f=>Ab f Z λa f=>Aa (Bd aX λa7 a8 aX=> ?_)))))))
      refine AL (λa w=>∃q_560':Unit,a7= .inl q_560'∧∃(a9:GH),GLe aV a9∧Fr a 61 [(1,pb ad),(38,aa),(39,(iv (ab.length:Int))),(40,iv aU)]∧Mem W a9 w (ib ad 26 [aa]::H)) ?_ ?_
      ·refine Ao (AM (λba a w=>∃bb:Int,bb=ba∧∃(bc:GH),GLe aV bc∧Fr a 61 [(1,pb ad),(6,iv aU),(38,aa),(39,(iv (ab.length:Int))),(40,iv aU),(45,a4),(46,(iv (a1.length:Int))),(47,iv bb)]∧Mem W bc w (ib ad 26 [aa]::H)) a8 ⟨_,Z,_,gr,f.k Z,m⟩ ?_)
       clear a8 f m
       rintro ba bd be bf a w ⟨bb,rfl,bc,bg,f,m⟩
       refine have ac:=rd2 bg ac;have a6:=rd1 bg a6;Ae (Ah f Z Z AV λa f=>Aa (Ag ?_))
       rcases Af be with⟨bh,be⟩|⟨bh,be⟩
       ·refine Al f Z bh (Ap (Ag (Ao (Ae (Bd be λbi bj be=>BI T30 f Z Z Z a6 bj λbk bl a bm bn f=> ?_)))))
        subst bn
        refine A3 m Pl2 f Z Z bm λa f=>Ac f Z λa f=>Ay (Bu underlying26 Z sizeOf24 f Z λa f=>AG 0 0 m BC f Z Z Z Z λa f=>Ab f Z λa f=>Bd be λbo bp be=>BI T24 f Z Z Z ac bp λbq br a bs bt f=>A3 m BU f Z Z bs λa f=>Ab f Z λa f=>Bd be λbu bv be=>Bj f Z call48 (Wk.k0 m bt bv) λbw w bx m a f=>l_o f (BN (f.e Z)) λa f=>Aa ?_)
        rcases Af be with⟨bz,be⟩|⟨bz,be⟩
        ·refine Al f Z bz (Ae (Ac f Z λa f=>Aa (Ar (have m:=m.dp 1;?_))))
         obtain rfl:=sj be
         obtain rfl:=bf _ rfl
         obtain rfl:=sj aX
         obtain rfl:=aY _ rfl
         obtain rfl:=sj hd
         exact⟨[(.bool false)],f.g Z,f.d,_,[],(gt ag (gt aP (gt aZ (gt bg bx)))),m,Z,Z⟩
        ·refine Ai f Z bz (Ap (Aq (Ah f Z Z Ax λa f=>Ab f Z λa f=>Aa ?_)))
         obtain rfl:=sj be
         exact⟨_,Z,_,Z,_,(gt bg bx),f.k Z,m⟩
       ·refine Ai f Z bh (AK Z ?_)
        obtain rfl:=sj be
        obtain rfl:=bf _ rfl
        exact⟨_,Z,_,bg,f.k Z,m⟩
      ·rintro a w ⟨_,rfl,a9,bA,f,m⟩
       refine Aq (Ah f Z Z Ax λa f=>Ab f Z λa f=>Aa ?_)
       obtain rfl:=sj aX
       exact⟨_,Z,_,Z,_,(gt aZ bA),f.k Z,m⟩
     ·refine Ai f Z a0 (AK Z (have m:=m.dp 1;?_))
      obtain rfl:=sj aX
      obtain rfl:=aY _ rfl
      exact⟨_,Z,_,aZ,f.weak trivial,m⟩
    ·rintro a w ⟨_,rfl,aS,bB,f,m⟩
     refine Ae (Ac f Z λa f=>Aa (Ar ?_))
     obtain rfl:=sj hd
     exact⟨[(.bool true)],f.g Z,f.d,_,[],(gt ag (gt aP bB)),m,Z,Z⟩
theorem Wk.p0 {aa:Value}{ab:LL}(m:Mem W G w (H))(ac:R2 G aa ab){y:Bool}(hd:D.p0 ab=some y):
  Calls prog 43 #[(.agg #[aa])] w (Res W G H (λ_ Ho v=>Ho=[]∧v=(.bool y))):=by
 refine Au (args:=[(.agg #[aa])]) (N:=11) [.tmp 2] func43 Z Z (lb Z) Z λa f=> ?_
 unfold D.p0 at hd
 refine Ae (Bz (cs:=[aa]) m f Z Z Z λad w a m f=>Ac f Z λa f=>Ay (AA 0 0 (ds:=[aa]) m AJ f Z Z Z Z Z λa f=>Bd hd λae af hd=>Bj f Z call73 (Wk.M0 m ac af) λag w ah m a f=>have ac:=rd2 ah ac;Ab f Z λa f=> ?_))
 refine BF 5 (λa w=>∃ai,GLe ag ai∧Mem W ai w (ib ad 26 [aa]::H)∧Fr a 11 [(0,(.agg #[aa])),(1,pb ad),(3,(.agg #[aa])),(4,(.bool ae)),(5,(.bool ae)),(10,(.bool (ae&&(decide ((ab.length:Int)≤8)))))]) ?_ ?_
 ·rcases Bool.eq_false_or_eq_true ae with aj|aj
  ·exact AB f aj (Bu underlying26 Z sizeOf24 f Z λa f=>AB f aj (AG 0 0 m BC f Z Z Z Z λa f=>AB f aj (Bg underlying24 f Z Z ac λa f=>AB f aj (Ah f Z Z CL λa f=>l_o f (AY (f.e Z) aj (f.e Z)) λa f=>⟨_,gr,m,f.weak ⟨Z,Z,Z,Z,Z,by rw[aj];rfl,trivial⟩⟩))))
  ·exact AC f aj λa f=>AC f aj λa f=>AC f aj λa f=>AC f aj λa f=>l_o f (AX (f.e Z) aj (f.e Z)) λa f=>⟨_,gr,m,f.weak ⟨Z,Z,Z,Z,Z,by rw[aj];rfl,trivial⟩⟩
 ·rintro a w ⟨ai,ak,m,f⟩
  refine Ac f Z λa f=>Aa (Ar (have m:=m.dp 1;?_))
  obtain rfl:=sj hd
  exact⟨[(.bool (ae&&(decide ((ab.length:Int)≤8))))],f.g Z,f.d,_,[],(gt ah ak),m,Z,Z⟩
theorem Wk.e {x0:Int}(m:Mem W G w (H)){y:Int}(hd:D.e x0=some y):
  Calls prog 45 #[iv x0] w (Res W G H (λ_ Ho v=>Ho=[]∧v=(.int .u32 y))):=by
 refine Au (args:=[iv x0]) (N:=5) [.tmp 2] func45 Z Z (lb Z) Z λa f=> ?_
 unfold D.e at hd
 refine Ae (Ac f Z λa f=>Ay (Ab f Z λa f=> ?_))
 obtain⟨aa,hd⟩:=CO hd
 refine l_o f (r_shl (f.e Z) (f.e Z) aa) λa f=>Ac f Z λa f=>Aa (Ar ?_)
 obtain rfl:=sj hd
 exact⟨[(.int .u32 (ishl .u32 1 x0))],f.g Z,f.d,_,[],gr,m,Z,Z⟩
theorem Wk.o1 {v0:Value}{x0:LI}(m:Mem W G w (H))(h0:R1 G v0 x0){y:Int}(hd:D.o1 x0=some y):
  Calls prog 49 #[v0] w (Res W G H (λ_ Ho v=>Ho=[]∧v=(.int .u32 y))):=by
 refine Au (args:=[v0]) (N:=18) [.tmp 2] func49 Z Z (lb Z) Z λa f=> ?_
 unfold D.o1 at hd
 refine Ae (Ac f Z λa f=>Ay (Ac f Z λa f=>Aa (Ag (Ae (Ab f Z λa f=>Bg underlying30 f Z Z h0 λa f=>Ab f Z λa f=>Aa (Bd hd λaa ab hd=> ?_))))))
 refine AL (λa w=>∃ac:Int,ac=aa∧∃(ad:GH),GLe G ad∧Fr a 18 [(3,(.int .u32 ac))]∧Mem W ad w (H)) ?_ ?_
 ·refine Ao (AM (λae a w=>∃af:Int,∃ag:Int,(af,ag)=ae∧∃(ah:GH),GLe G ah∧Fr a 18 [(3,(.int .u32 af)),(6,v0),(7,(iv (x0.length:Int))),(8,iv ag)]∧Mem W ah w (H)) ab ⟨_,_,Z,_,gr,f.k Z,m⟩ ?_)
  clear ab f m
  rintro ae ai aj ak a w ⟨af,ag,rfl,ah,al,f,m⟩
  refine have h0:=rd1 al h0;Ae (Ah f Z Z AV λa f=>Aa (Ag ?_))
  rcases Af aj with⟨am,aj⟩|⟨am,aj⟩
  ·refine Al f Z am (Ap (Ag (Ao (Ae (Bd aj λan ao aj=>BI T30 f Z Z Z h0 ao λap aq a ar au f=> ?_)))))
   subst au
   refine A3 m Pl2 f Z Z ar λa f=>Ac f Z λa f=>Aa (Aq (Ab f Z λa f=>Ab f Z λa f=>Bd aj λav aw aj=>Bj f Z call45 (Wk.e m aw) λax w ay m a f=>Ah f Z Z b_or λa f=>Ac f Z λa f=>Aa (Aq (Ah f Z Z Ax λa f=>Ab f Z λa f=>Aa ?_))))
   obtain rfl:=sj aj
   exact⟨_,Z,_,_,Z,_,(gt al ay),f.k Z,m⟩
  ·refine Ai f Z am (AK Z ?_)
   obtain rfl:=sj aj
   obtain rfl:=ak _ rfl
   exact⟨_,Z,_,al,f.k Z,m⟩
 ·rintro a w ⟨ac,rfl,ad,az,f,m⟩
  refine Ae (Ab f Z λa f=>Ac f Z λa f=>Aa (Ar ?_))
  obtain rfl:=sj hd
  exact⟨[(.int .u32 ac)],f.g Z,f.d,_,[],az,m,Z,Z⟩
theorem Wk.J {aa:Value}{ab:LL}(m:Mem W G w (H))(ac:R2 G aa ab){y:(LI)}(hd:D.J ab=some y):
  Calls prog 30 #[(.agg #[aa])] w (Res W G H (λG' Ho v=>∃r0:Value,∃i0:Itm,Ho=[i0]∧r0=v∧Ow (RI .u32) 60 G' i0 r0 y)):=by
 refine Au (args:=[(.agg #[aa])]) (N:=21) [.tmp 2] func30 Z Z (lb Z) Z λa f=> ?_
 unfold D.J at hd
 refine Ae (Bz (cs:=[aa]) m f Z Z Z λad w a m f=>Ac f Z λa f=>Ay (A9 (R:=(RI .u32)) (xs:=([]:LI)) (RI.one _) m T51 f Z Z Z (by decide) (All2.nil _) λae af w a m ag f=>Ac f Z λa f=>Aa (Ag (Ae (Bu underlying26 Z sizeOf24 f Z λa f=>AG 1 0 m BC f Z Z Z Z λa f=>Bg underlying24 f Z Z ac λa f=>Ab f Z λa f=>Aa (Bd hd λah ai hd=> ?_))))))
 refine AL (λa w=>∃aj:LI,aj=ah∧∃(ak:GH) (al:Value) (am:Itm),GLe G ak∧Fr a 21 [(3,al)]∧Mem W ak w (am::H)∧Ow (RI .u32) 60 ak am al aj) ?_ ?_
 ·refine Ao (have m:=m.eraseAt 1;AM (λan a w=>∃ao:LI,∃ap:Int,(ao,ap)=an∧∃(aq:GH) (ar:Value) (au:Itm),GLe G aq∧Fr a 21 [(3,ar),(8,aa),(9,(iv (ab.length:Int))),(10,iv ap)]∧Mem W aq w (au::H)∧Ow (RI .u32) 60 aq au ar ao) ai ⟨_,_,Z,_,af,ae,gr,f.k Z,m,ag⟩ ?_)
  clear ai f m
  rintro an av aw ax a w ⟨ao,ap,rfl,aq,ar,au,ay,f,m,az⟩
  refine have ac:=rd2 ay ac;Ae (Ah f Z Z AV λa f=>Aa (Ag ?_))
  rcases Af aw with⟨aA,aw⟩|⟨aA,aw⟩
  ·refine Al f Z aA (Ap (Ag (Ao (Ae (Bd aw λaB aC aw=>BI T24 f Z Z Z ac aC λaD aE a aF aG f=>A3 m BU f Z Z aF λa f=>Ac f Z λa f=>Aa (Aq (Ab f Z λa f=>Ab f Z λa f=>Bd aw λaH aI aw=>Bj f Z call49 (Wk.o1 m aG aI) λaJ w aK m a f=>have az:=od1 aK az;A9 (R:=(RI .u32)) (xs:=([aH]:LI)) (RI.one _) m T51 f Z Z Z (by decide) (All2.cons Z (All2.nil _)) λaL aM w a m aN f=>Bd aw λaO aP aw=>Bm (RI.one _) 1 m az Z T51 Z (by decide) f Z Z Z (Ow.src (j:=0) aN m Z) aP λaQ aR w a m aS f=>Ac f Z λa f=>Aa (Aq (Ah f Z Z Ax λa f=>Ab f Z λa f=>Aa (have m:=m.fr 1;have m:=m.eraseAt 1;?_))))))))))
   obtain rfl:=sj aw
   exact⟨_,Z,_,_,Z,_,aR,aQ,(gt ay aK),f.k Z,m,aS⟩
  ·refine Ai f Z aA (AK Z ?_)
   obtain rfl:=sj aw
   obtain rfl:=ax _ rfl
   exact⟨_,Z,_,ar,au,ay,f.k Z,m,az⟩
 ·rintro a w ⟨aj,rfl,ak,al,am,aT,f,m,aU⟩
  refine Ae (Ab f Z λa f=>Ac f Z λa f=>Aa (Ar ?_))
  obtain rfl:=sj hd
  exact⟨[al],f.g Z,f.d,_,[am],aT,m,_,_,Z,Z,aU⟩
theorem Wk.x0 {x0:Int}(m:Mem W G w (H)){y:((List (Int×Int)))}(hd:D.x0 x0=some y):
  Calls prog 75 #[iv x0] w (Res W G H (λG' Ho v=>∃r0:Value,∃i0:Itm,Ho=[i0]∧r0=v∧OwR P2 122 G' i0 r0 y)):=by
 refine Au (args:=[iv x0]) (N:=49) [.tmp 2] func75 Z Z (lb Z) Z λa f=> ?_
 unfold D.x0 at hd
 refine Ae (Ac f Z λa f=>Ay (Ab f Z λa f=>Bd hd λaa ab hd=>Bj f Z call42 (Wk.z m ab) λac w ad m a f=>Ab f Z λa f=>l_o f (AE (f.e Z) Z) λa f=>l_o f (AE (f.e Z) Z) λa f=>Ac f Z λa f=>Ac f Z λa f=>Ay (l_slitR0 (E:=P2) m T98 f Z λae af w a m ag f=>Ac f Z λa f=>Aa (Ag (Ae (Ab f Z λa f=>Ab f Z λa f=>Aa (Bd hd λah ai hd=> ?_)))))))
 refine AL (λa w=>∃aj:List (Int×Int),aj=ah∧∃(ak:GH) (al:Value) (am:Itm),GLe ac ak∧Fr a 49 [(5,al)]∧Mem W ak w (am::H)∧OwR P2 122 ak am al aj) ?_ ?_
 ·refine Ao (AM (λan a w=>∃ao:List (Int×Int),∃ap:Int,(ao,ap)=an∧∃(aq:GH) (ar:Value) (au:Itm),GLe ac aq∧Fr a 49 [(3,iv aa.1),(4,iv aa.2),(5,ar),(15,iv aa.1),(16,iv ap)]∧Mem W aq w (au::H)∧OwR P2 122 aq au ar ao) ai ⟨_,_,Z,_,af,ae,gr,f.k Z,m,ag⟩ ?_)
  clear ai f m
  rintro an av aw ax a w ⟨ao,ap,rfl,aq,ar,au,ay,f,m,az⟩
  refine Ae (Ah f Z Z AV λa f=>Aa (Ag ?_))
  rcases Af aw with⟨aA,aw⟩|⟨aA,aw⟩
  ·refine Al f Z aA (Ap (Ag (Ao (Ae (Ab f Z λa f=>Ac f Z λa f=>Aa (Ag (Ae (Ab f Z λa f=>Ah f Z Z BA λa f=>Aa (Bd aw λaB aC aw=> ?_)))))))))
   refine AL (λa w=>∃aD:List (Int×Int),aD=aB∧∃(aE:GH) (aF:Value) (aG:Itm),GLe aq aE∧Fr a 49 [(3,iv aa.1),(4,iv aa.2),(5,aF),(6,iv ap),(15,iv aa.1),(16,iv ap)]∧Mem W aE w (aG::H)∧OwR P2 122 aE aG aF aD) ?_ ?_
   ·rcases Af aC with⟨aH,aC⟩|⟨aH,aC⟩
    ·refine Al f Z aH (Ae (Ab f Z λa f=>Ah f Z Z Ax λa f=>Ac f Z λa f=>Aa (Bd aC λaI aJ aC=> ?_)))
     refine AL (λa w=>∃aK:List (Int×Int),aK=aI∧∃(aL:GH) (aM:Value) (aN:Itm),GLe aq aL∧Fr a 49 [(3,iv aa.1),(4,iv aa.2),(5,aM),(6,iv ap),(15,iv aa.1),(16,iv ap)]∧Mem W aL w (aN::H)∧OwR P2 122 aL aN aM aK) ?_ ?_
     ·refine Ao (AM (λaO a w=>∃aP:List (Int×Int),∃aQ:Int,(aP,aQ)=aO∧∃(aR:GH) (aS:Value) (aT:Itm),GLe aq aR∧Fr a 49 [(3,iv aa.1),(4,iv aa.2),(5,aS),(6,iv ap),(7,iv aQ),(15,iv aa.1),(16,iv ap)]∧Mem W aR w (aT::H)∧OwR P2 122 aR aT aS aP) aJ ⟨_,_,Z,_,ar,au,gr,f.k Z,m,az⟩ ?_)
      clear aJ f m
      rintro aO aU aV aW a w ⟨aP,aQ,rfl,aR,aS,aT,aX,f,m,aY⟩
      refine Ag (Ae (Ab f Z λa f=>Ab f Z λa f=>Ah f Z Z AV λa f=>Aa ?_))
      rcases Af aV with⟨aZ,aV⟩|⟨aZ,aV⟩
      ·refine Al f Z aZ (Ap (Ag (Ao (Aq (Ab f Z λa f=>Ab f Z λa f=>Ab f Z λa f=> ?_)))))
       have a0:∀w,(Instr.build 122 #[(0,iv ap),(1,iv aQ)]).run prog w= .ok (.agg #[iv ap,iv aQ]) w:=by intro w;simp[Instr.build,Instr.fill,Bb,A6,AT,A2,AQ,Bc,A7]
       refine Bv f Z Z a0 λa f=>l_slitR (E:=P2) (y:=(ap,aQ)) (cs:=[iv ap,iv aQ]) m T98 f Z Z Z (lb Z) λa1 a2 w a m a3 f=>Bd aV λa4 a5 aV=>FV (E:=P2) (z:= .agg #[iv 0,iv 0]) 1 0 m aY Z a3 Z (by simp) T98 Z (by decide) f Z Z Z a5 λa6 a7 w a m a8 f=>Ac f Z λa f=>Aa (Aq (Ab f Z λa f=>Ah f Z Z Ax λa f=>Ac f Z λa f=>Aa (have m:=m.fr 1;have m:=m.eraseAt 1;?_)))
       obtain rfl:=sj aV
       exact⟨_,Z,_,_,Z,_,a7,a6,aX,f.k Z,m,a8⟩
      ·refine Ai f Z aZ (AK Z ?_)
       obtain rfl:=sj aV
       obtain rfl:=aW _ rfl
       exact⟨_,Z,_,aS,aT,aX,f.k Z,m,aY⟩
     ·rintro a w ⟨aK,rfl,aL,aM,aN,a9,f,m,ba⟩
      obtain rfl:=sj aC
      exact⟨_,Z,_,aM,aN,a9,f.k Z,m,ba⟩
    ·refine Ai f Z aH (Ap ?_)
     obtain rfl:=sj aC
     exact⟨_,Z,_,ar,au,gr,f.k Z,m,az⟩
   ·rintro a w ⟨aD,rfl,aE,aF,aG,bb,f,m,bc⟩
    refine Ae (Ab f Z λa f=>Ab f Z λa f=>Aa (Bd aw λbd be aw=> ?_))
    refine AL (λa w=>∃bf:List (Int×Int),bf=bd∧∃(bg:GH) (bh:Value) (bi:Itm),GLe aE bg∧Fr a 49 [(3,iv aa.1),(4,iv aa.2),(5,bh),(15,iv aa.1),(16,iv ap)]∧Mem W bg w (bi::H)∧OwR P2 122 bg bi bh bf) ?_ ?_
    ·refine Ao (AM (λbj a w=>∃bk:List (Int×Int),∃bl:Int,(bk,bl)=bj∧∃(bm:GH) (bn:Value) (bo:Itm),GLe aE bm∧Fr a 49 [(3,iv aa.1),(4,iv aa.2),(5,bn),(6,iv ap),(15,iv aa.1),(16,iv ap),(34,iv aa.2),(35,iv bl)]∧Mem W bm w (bo::H)∧OwR P2 122 bm bo bn bk) be ⟨_,_,Z,_,aF,aG,gr,f.k Z,m,bc⟩ ?_)
     clear be f m
     rintro bj bp bq br a w ⟨bk,bl,rfl,bm,bn,bo,bs,f,m,bt⟩
     refine Ae (Ah f Z Z AV λa f=>Aa (Ag ?_))
     rcases Af bq with⟨bu,bq⟩|⟨bu,bq⟩
     ·refine Al f Z bu (Ap (Ag (Ao (Ae (Ab f Z λa f=>Ac f Z λa f=>Aa (Aq (Ab f Z λa f=>Ab f Z λa f=>Ab f Z λa f=>Ab f Z λa f=>Ah f Z Z Ax λa f=> ?_)))))))
      have bv:∀w,(Instr.build 122 #[(0,iv ap),(1,(iv (i64.wrap (aa.1+bl))))]).run prog w= .ok (.agg #[iv ap,(iv (i64.wrap (aa.1+bl)))]) w:=by intro w;simp[Instr.build,Instr.fill,Bb,A6,AT,A2,AQ,Bc,A7]
      refine Bv f Z Z bv λa f=>l_slitR (E:=P2) (y:=(ap,(i64.wrap (aa.1+bl)))) (cs:=[iv ap,(iv (i64.wrap (aa.1+bl)))]) m T98 f Z Z Z (lb Z) λbw bx w a m bz f=>Bd bq λbA bB bq=>FV (E:=P2) (z:= .agg #[iv 0,iv 0]) 1 0 m bt Z bz Z (by simp) T98 Z (by decide) f Z Z Z bB λbC bD w a m bE f=>Ac f Z λa f=>Aa (Aq (Ah f Z Z Ax λa f=>Ab f Z λa f=>Aa (have m:=m.fr 1;have m:=m.eraseAt 1;?_)))
      obtain rfl:=sj bq
      exact⟨_,Z,_,_,Z,_,bD,bC,bs,f.k Z,m,bE⟩
     ·refine Ai f Z bu (AK Z ?_)
      obtain rfl:=sj bq
      obtain rfl:=br _ rfl
      exact⟨_,Z,_,bn,bo,bs,f.k Z,m,bt⟩
    ·rintro a w ⟨bf,rfl,bg,bh,bi,bF,f,m,bG⟩
     refine Aq (Ah f Z Z Ax λa f=>Ab f Z λa f=>Aa ?_)
     obtain rfl:=sj aw
     exact⟨_,Z,_,_,Z,_,bh,bi,(gt ay (gt bb bF)),f.k Z,m,bG⟩
  ·refine Ai f Z aA (AK Z ?_)
   obtain rfl:=sj aw
   obtain rfl:=ax _ rfl
   exact⟨_,Z,_,ar,au,ay,f.k Z,m,az⟩
 ·rintro a w ⟨aj,rfl,ak,al,am,bH,f,m,bI⟩
  refine Ae (Ab f Z λa f=>Ac f Z λa f=>Aa (Ar ?_))
  obtain rfl:=sj hd
  exact⟨[al],f.g Z,f.d,_,[am],(gt ad bH),m,_,_,Z,Z,bI⟩
theorem Wk.F {v0:Value}{it0:Itm}{x0:LI}{x1 x2:Int}(m:Mem W G w (it0::H))(o0:Ow (RI .u32) 60 G it0 v0 x0){y:(LI)}(hd:D.F x0 x1 x2=some y):
  Calls prog 24 #[v0,iv x1,iv x2] w (Res W G H (λG' Ho _=>∃i0:Itm,Ho=[i0]∧Ow (RI .u32) 60 G' i0 v0 y)):=by
 refine Au (args:=[v0,iv x1,iv x2]) (N:=22) [] func24 Z Z (lb Z) Z λa f=> ?_
 unfold D.F at hd
 refine Ag (A5 8 AF (by kernel_rfl) m (Aj 0 8 Z f Z λa f=>Aj 1 8 Z f Z λa f=>Bd hd λaa ab hd=>A4 2 8 0 m o0 T51 ab Z f Z Z λac a ad f=>Bk 3 8 0 o0 DB ad ab Z f Z λae a af f=> ?_))
 subst af
 refine Aj 4 8 Z f Z λa f=>Bd hd λag ah hd=>BH (i:=5) 8 Z (by kernel_rfl) Z f Z Z Z call45 (λ_ _ w ai m=>Wk.e m ah) λa f=>q_p 6 8 Z f (λ_=>A8 (f.e Z) (f.e Z) b_or) λa f=>Bd hd λaj ak hd=>A4 7 8 0 m o0 T51 ak Z f Z Z λal a am f=>AO λan w ao m=>have o0:=od1 ao o0;AR 0 m o0 Z sizeOf60 f Z Z am ak Z Z Z λap w m aq=>Aa (A5 8 AF (by kernel_rfl) m (Aj 0 8 Z f Z λa f=>Aj 1 8 Z f Z λa f=>Bd hd λar au hd=>A4 2 8 0 m aq T51 au Z f Z Z λav a aw f=>Bk 3 8 0 aq DB aw au Z f Z λax a ay f=> ?_))
 subst ay
 refine Aj 4 8 Z f Z λa f=>Bd hd λaz aA hd=>BH (i:=5) 8 Z (by kernel_rfl) Z f Z Z Z call45 (λ_ _ w aB m=>Wk.e m aA) λa f=>q_p 6 8 Z f (λ_=>A8 (f.e Z) (f.e Z) b_or) λa f=>Bd hd λaC aD hd=>A4 7 8 0 m aq T51 aD Z f Z Z λaE a aF f=>AO λaG w aH m=>have aq:=od1 aH aq;AR 0 m aq Z sizeOf60 f Z Z aF aD Z Z Z λaI w m aJ=>Aa ?_
 obtain rfl:=sj hd
 exact⟨[],trivial,f.d,_,[aI],(gt ao aH),m,_,Z,aJ⟩
theorem Wk.M {x0:Int}(hW:Cs W)(m:Mem W G w (H)){y:Int}(hd:D.M x0=some y):
  Calls prog 79 #[(.int .u32 x0)] w (Res W G H (λ_ Ho v=>Ho=[]∧v=(iv y))):=by
 refine Au (args:=[(.int .u32 x0)]) (N:=5) [.tmp 2] func79 Z Z (lb Z) Z λa f=> ?_
 unfold D.M at hd
 refine Ae (Ac f Z λa f=>Ay (Ab f Z λa f=>Bd hd λaa ab hd=>Bj f Z call99 (Wk.Y1 hW m ab) λac w ad m a f=>Ac f Z λa f=>Aa (Ar ?_)))
 obtain rfl:=sj hd
 exact⟨[iv aa],f.g Z,f.d,_,[],ad,m,Z,Z⟩
theorem Wk.r {x0:Int}(hW:Cs W)(m:Mem W G w (H)){y:(LI)}(hd:D.r x0=some y):
  Calls prog 80 #[(.int .u32 x0)] w (Res W G H (λG' Ho v=>∃r0:Value,∃i0:Itm,Ho=[i0]∧r0=v∧Ow R0 3 G' i0 r0 y)):=by
 refine Au (args:=[(.int .u32 x0)]) (N:=17) [.tmp 2] func80 Z Z (lb Z) Z λa f=> ?_
 unfold D.r at hd
 refine Ae (Ac f Z λa f=>Ay (A9 (R:=R0) (xs:=([]:LI)) (RI.one _) m T87 f Z Z Z (by decide) (All2.nil _) λaa ab w a m ac f=>Ac f Z λa f=>Aa (Ag (Bd hd λad ae hd=> ?_))))
 refine AL (λa w=>∃af:LI,af=ad∧∃(ag:GH) (ah:Value) (ai:Itm),GLe G ag∧Fr a 17 [(3,ah)]∧Mem W ag w (ai::H)∧Ow R0 3 ag ai ah af) ?_ ?_
 ·refine Ao (AM (λaj a w=>∃ak:Int,∃al:LI,(ak,al)=aj∧∃(am:GH) (an:Value) (ao:Itm),GLe G am∧Fr a 17 [(0,(.int .u32 ak)),(3,an)]∧Mem W am w (ao::H)∧Ow R0 3 am ao an al) ae ⟨_,_,Z,_,ab,aa,gr,f.k Z,m,ac⟩ ?_)
  clear ae f m
  rintro aj ap aq ar a w ⟨ak,al,rfl,am,an,ao,au,f,m,av⟩
  refine Ag (Ae (Ab f Z λa f=>Ah f Z Z Dc λa f=>Aa ?_))
  rcases Af aq with⟨aw,aq⟩|⟨aw,aq⟩
  ·refine Al f Z aw (Ap (Ag (Ao (Aq (Ab f Z λa f=>Ab f Z λa f=>Bd aq λax ay aq=>Bj f Z call79 (Wk.M hW m ay) λaz w aA m a f=>have av:=od1 aA av;A9 (R:=R0) (xs:=([ax]:LI)) (RI.one _) m T87 f Z Z Z (by decide) (All2.cons Z (All2.nil _)) λaB aC w a m aD f=>Bd aq λaE aF aq=>Bm (RI.one _) 1 m av Z T87 Z (by decide) f Z Z Z (Ow.src (j:=0) aD m Z) aF λaG aH w a m aI f=>Ac f Z λa f=>Aa (Aq (Ab f Z λa f=>Ab f Z λa f=>Ah f Z Z Be λa f=>Ah f Z Z CZ λa f=>Ac f Z λa f=>Aa (have m:=m.fr 1;have m:=m.eraseAt 1;?_))))))))
   obtain rfl:=sj aq
   exact⟨_,Z,_,_,Z,_,aH,aG,(gt au aA),f.k Z,m,aI⟩
  ·refine Ai f Z aw (AK Z ?_)
   obtain rfl:=sj aq
   obtain rfl:=ar _ rfl
   exact⟨_,Z,_,an,ao,au,f.k Z,m,av⟩
 ·rintro a w ⟨af,rfl,ag,ah,ai,aJ,f,m,aK⟩
  refine Ae (Ab f Z λa f=>Ac f Z λa f=>Aa (Ar ?_))
  obtain rfl:=sj hd
  exact⟨[ah],f.g Z,f.d,_,[ai],aJ,m,_,_,Z,Z,aK⟩
theorem Wk.u {v0:Value}{x0:LI}(m:Mem W G w (H))(h0:R1 G v0 x0){y:(LI)}(hd:D.u x0=some y):
  Calls prog 84 #[v0] w (Res W G H (λG' Ho v=>∃r0:Value,∃i0:Itm,Ho=[i0]∧r0=v∧Ow R0 2 G' i0 r0 y)):=by
 refine Au (args:=[v0]) (N:=21) [.tmp 2] func84 Z Z (lb Z) Z λa f=> ?_
 unfold D.u at hd
 refine Ae (Ac f Z λa f=>Ay (Ab f Z λa f=>Bg underlying87 f Z Z h0 λa f=>Bd hd λaa ab hd=>Fb (R:=R0) m T30 Z (by decide) Z f Z Z Z ab λac ad w a m ae f=>Ac f Z λa f=>Aa (Ag (Ae (Ab f Z λa f=>Bg underlying87 f Z Z h0 λa f=>Ab f Z λa f=>Aa (Bd hd λaf ag hd=> ?_))))))
 refine AL (λa w=>∃ah:LI,ah=af∧∃(ai:GH) (aj:Value) (ak:Itm),GLe G ai∧Fr a 21 [(3,aj)]∧Mem W ai w (ak::H)∧Ow R0 2 ai ak aj ah) ?_ ?_
 ·refine Ao (AM (λal a w=>∃am:LI,∃an:Int,(am,an)=al∧∃(ao:GH) (ap:Value) (aq:Itm),GLe G ao∧Fr a 21 [(3,ap),(9,v0),(10,(iv (x0.length:Int))),(11,iv an)]∧Mem W ao w (aq::H)∧Ow R0 2 ao aq ap am) ag ⟨_,_,Z,_,ad,ac,gr,f.k Z,m,ae⟩ ?_)
  clear ag f m
  rintro al ar au av a w ⟨am,an,rfl,ao,ap,aq,aw,f,m,ax⟩
  refine have h0:=rd1 aw h0;Ae (Ah f Z Z AV λa f=>Aa (Ag ?_))
  rcases Af au with⟨ay,au⟩|⟨ay,au⟩
  ·refine Al f Z ay (Ap (Ag (Ao (Ae (Bd au λaz aA au=>BI T87 f Z Z Z h0 aA λaB aC a aD aE f=> ?_)))))
   subst aE
   refine A3 m Pl3 f Z Z aD λa f=>Ac f Z λa f=>Aa (Aq (Ab f Z λa f=>Ab f Z λa f=>A9 (R:=R0) (xs:=([az]:LI)) (RI.one _) m T30 f Z Z Z (by decide) (All2.cons Z (All2.nil _)) λaF aG w a m aH f=>Bd au λaI aJ au=>Bm (RI.one _) 1 m ax Z T30 Z (by decide) f Z Z Z (Ow.src (j:=0) aH m Z) aJ λaK aL w a m aM f=>Ac f Z λa f=>Aa (Aq (Ah f Z Z Ax λa f=>Ab f Z λa f=>Aa (have m:=m.fr 1;have m:=m.eraseAt 1;?_)))))
   obtain rfl:=sj au
   exact⟨_,Z,_,_,Z,_,aL,aK,aw,f.k Z,m,aM⟩
  ·refine Ai f Z ay (AK Z ?_)
   obtain rfl:=sj au
   obtain rfl:=av _ rfl
   exact⟨_,Z,_,ap,aq,aw,f.k Z,m,ax⟩
 ·rintro a w ⟨ah,rfl,ai,aj,ak,aN,f,m,aO⟩
  refine Ae (Ab f Z λa f=>Ac f Z λa f=>Aa (Ar ?_))
  obtain rfl:=sj hd
  exact⟨[aj],f.g Z,f.d,_,[ak],aN,m,_,_,Z,Z,aO⟩
theorem Wk.s1 {x0:Int}(hW:Cs W)(m:Mem W G w (H)){y:(LI)}(hd:D.s1 x0=some y):
  Calls prog 46 #[(.int .u32 x0)] w (Res W G H (λG' Ho v=>∃r0:Value,∃i0:Itm,Ho=[i0]∧r0=v∧Ow R0 2 G' i0 r0 y)):=by
 refine Au (args:=[(.int .u32 x0)]) (N:=6) [.tmp 2] func46 Z Z (lb Z) Z λa f=> ?_
 unfold D.s1 at hd
 refine Ae (Ac f Z λa f=>Ay (Ab f Z λa f=>Bd hd λaa ab hd=>BP f Z call80 (Wk.r hW m ab) λac ad ae w af m ag a f=>Bd hd λah ai hd=>BP f Z call84 (Ow.lendCall (RI.mono _) 0 ag m Z (λaj ak m al=>Wk.u m al ai) (λ_ G' _ _ ⟨a0,a1,e1,e2,o0⟩=>⟨a0,a1,e1,e2,Ow.free (RI.free _) G' o0⟩)) λam an ao w ap m aq a f=>Ac f Z λa f=>Aa (Ar (have m:=m.eraseAt 1;?_))))
 obtain rfl:=sj hd
 exact⟨[am],f.g Z,f.d,_,[an],(gt af ap),m,_,_,Z,Z,aq⟩
theorem Wk.g0 {v0:Value}{x0:LI}(hW:Cs W)(m:Mem W G w (H))(h0:RSl (RI .u32) G v0 x0){y:(LL)}(hd:D.g0 x0=some y):
  Calls prog 26 #[v0] w (Res W G H (λG' Ho v=>∃r0:Value,∃i0:Itm,Ho=[i0]∧v=(.agg #[r0])∧Ow R1 30 G' i0 r0 y)):=by
 refine Au (args:=[v0]) (N:=22) [.cell 2 26] func26 Z Z (lb Z) Z λa f=> ?_
 unfold D.g0 at hd
 refine Ae (AP (cs:=[sn]) zeroValue26 m f Z Z λaa w a m f=>Ay ?_)
 have ab:∀w,(Instr.build 26 #[]).run prog w= .ok (.agg #[sn]) w:=by intro w;simp[Instr.build,Instr.fill,Bb,A6,AT,A2,AQ,Bc,A7]
 refine Bv f Z Z ab λa f=>AP (cs:=[sn]) zeroValue26 m f Z Z λac w a m f=>Am 0 0 (ds:=[sn]) m sizeOf26 f Z Z Z (Ak Z As) Z (lb Z) Z λw m=>Aa (Ag (Ae (Ab f Z λa f=>Bg underlying51 f Z Z h0 λa f=>Ab f Z λa f=>Aa ?_)))
 obtain⟨ad,m,ae⟩:=Ow.nil R1 30 m
 have⟨af,ag,hd⟩:=bind_some hd
 refine AL (λa w=>∃ah:LL,ah=af∧∃(ai:GH) (aj:Value) (ak:Itm),GLe G ai∧Fr a 22 [(2,pb aa),(3,pb ac)]∧Mem W ai w (ib aa 26 [sn]::ib ac 26 [aj]::ak::H)∧Ow R1 30 ai ak aj ah) ?_ ?_
 ·refine Ao (have m:=m.fr 1;have m:=m.fr 2;AM (λal a w=>∃am:Int,∃an:LL,(am,an)=al∧∃(ao:GH) (ap:Value) (aq:Itm),GLe G ao∧Fr a 22 [(2,pb aa),(3,pb ac),(7,v0),(8,(iv (x0.length:Int))),(9,iv am)]∧Mem W ao w (ib aa 26 [sn]::ib ac 26 [ap]::aq::H)∧Ow R1 30 ao aq ap an) ag ⟨_,_,Z,_,sn,ad,gr,f.k Z,m,ae⟩ ?_)
  clear ag f m
  rintro al ar au av a w ⟨am,an,rfl,ao,ap,aq,aw,f,m,ax⟩
  refine have h0:=rd1 aw h0;Ae (Ah f Z Z AV λa f=>Aa (Ag ?_))
  rcases Af au with⟨ay,au⟩|⟨ay,au⟩
  ·refine Al f Z ay (Ap (Ag (Ao (Ae (Bd au λaz aA au=>BI T51 f Z Z Z h0 aA λaB aC a aD aE f=> ?_)))))
   subst aE
   refine A3 m DB f Z Z aD λa f=>Ac f Z λa f=>Aa (A5 5 AF (by kernel_rfl) m (BE 0 5 underlying26 Z sizeOf24 Z f Z λa f=>Bf 1 5 1 BC Z Z Z f Z λa f=>Aj 2 5 Z f Z λa f=>Bh 3 Z λaF w aG m aH aH=>have ax:=od3 aG ax;Bd au λaI aJ au=>BP f Z call46 (Wk.s1 hW m aJ) λaK aL aM w aN m aO a f=>have ax:=od3 aN ax;Aa (aH aM [aL] _ _ aN m (Bh 4 Z λaP w aQ m aR aR=>have aO:=od1 aQ aO;have ax:=od3 aQ ax;?_))))
   obtain⟨aS,aT,m,aU⟩:=Ow.stamp (RI.mono _) aO m
   refine have ax:=od3 aT ax;A9 (R:=R1) (xs:=([aI]:LL)) (RSl.one _) m T24 f Z Z Z (by decide) (All2.cons aU (All2.nil _)) λaV aW w a m aX f=>Aa (aR aS [aV] _ _ aT m (AO λaY w aZ m=>have aX:=od3 aZ aX;have ax:=od3 aZ ax;Bd au λa0 a1 au=>Bm (RSl.one _) 3 m ax Z T24 Z (by decide) f Z Z Z (Ow.src (j:=0) aX m Z) a1 λa2 a3 w a m a4 f=>Bu underlying26 Z sizeOf24 f Z λa f=>Am 2 0 (ds:=[a3]) m sizeOf24 f Z Z (Ow.cells 3 m a4 Z) (Ak (Ow.one1 3 m a4 Z) As) Z (lb Z) Z λw m=>Aa (Aq (Ah f Z Z Ax λa f=>Ab f Z λa f=>Aa (have m:=m.fr 3;have m:=m.fr 3;have m:=m.fr 3;have m:=m.eraseAt 3;?_)))))
   obtain rfl:=sj au
   exact⟨_,Z,_,_,Z,_,a3,a2,(gt aw (gt aG (gt aN (gt aQ (gt aT aZ))))),f.k Z,m,a4⟩
  ·refine Ai f Z ay (AK Z ?_)
   obtain rfl:=sj au
   obtain rfl:=av _ rfl
   exact⟨_,Z,_,ap,aq,aw,f.k Z,m,ax⟩
 ·rintro a w ⟨ah,rfl,ai,aj,ak,a5,f,m,a6⟩
  refine Ae (AA 1 0 (ds:=[aj]) m AJ f Z Z Z Z Z λa f=>Am 0 0 (ds:=[aj]) m sizeOf26 f Z Z Z (Ak (Ow.one1 2 m a6 Z) As) Z (lb Z) Z λw m=>Aa (Ar (have a7:=Bi (P:=prog) 0 m AJ f (s:=2) rfl rfl rfl;have m:=m.fr 2;have m:=m.eraseAt 2;have m:=m.eraseAt 1;?_)))
  obtain rfl:=sj hd
  exact⟨[(.agg #[aj])],⟨a7,trivial⟩,f.d,_,[ak],a5,m,_,_,Z,Z,a6⟩
theorem Wk.J1 {x0:Int}(hW:Cs W)(m:Mem W G w (H)){y:(LL)}(hd:D.J1 x0=some y):
  Calls prog 74 #[iv x0] w (Res W G H (λG' Ho v=>∃r0:Value,∃i0:Itm,Ho=[i0]∧v=(.agg #[r0])∧Ow R1 30 G' i0 r0 y)):=by
 refine Au (args:=[iv x0]) (N:=36) [.cell 2 26] func74 Z Z (lb Z) Z λa f=> ?_
 unfold D.J1 at hd
 refine Ae (AP (cs:=[sn]) zeroValue26 m f Z Z λaa w a m f=>Ay (Ab f Z λa f=>Bd hd λab ac hd=>Bj f Z call42 (Wk.z m ac) λad w ae m a f=>Ab f Z λa f=>l_o f (AE (f.e Z) Z) λa f=>l_o f (AE (f.e Z) Z) λa f=>Ac f Z λa f=>Ac f Z λa f=>Aa (Ag (Ae (Ab f Z λa f=>Ah f Z Z BA λa f=>Aa ?_)))))
 rcases Af hd with⟨af,hd⟩|⟨af,hd⟩
 ·refine Al f Z af (Ae ?_)
  have ag:∀w,(Instr.build 26 #[]).run prog w= .ok (.agg #[sn]) w:=by intro w;simp[Instr.build,Instr.fill,Bb,A6,AT,A2,AQ,Bc,A7]
  refine Bv f Z Z ag λa f=>Am 0 0 (ds:=[sn]) m sizeOf26 f Z Z Z (Ak Z As) Z (lb Z) Z λw m=>Aa (Ar ?_)
  obtain⟨ah,m,ai⟩:=Ow.nil R1 30 m
  refine have aj:=Bi (P:=prog) 1 m AJ f (s:=2) rfl rfl rfl;have m:=m.eraseAt 1;?_
  obtain rfl:=sj hd
  exact⟨[(.agg #[sn])],⟨aj,trivial⟩,f.d,_,[ah],ae,m,_,_,Z,Z,ai⟩
 ·refine Ai f Z af (Ap (Ae (Ab f Z λa f=>Ab f Z λa f=>Ah f Z Z Ax λa f=>Bd hd λak al hd=>Fb (R:=(RI .u32)) m T51 Z (by decide) Z f Z Z Z al λam an w a m ao f=>Ac f Z λa f=>Aa (Ag (Ae (Ab f Z λa f=>Bd hd λap aq hd=>BP f Z call75 (Wk.x0 m aq) λar au av w aw m ax a f=>have ao:=od1 aw ao;l_ownR_len 0 m ax Z underlying98 f Z Z λa f=>Ab f Z λa f=>Aa ?_))))))
  obtain⟨ay,az,m,aA⟩:=OwR.stamp trivial ax m
  refine have ao:=od1 az ao;Bd hd λaB aC hd=> ?_
  refine AL (λa w=>∃aD:LI,aD=aB∧∃(aE:GH) (aF:Itm),GLe ay aE∧Fr a 36 [(2,pb aa),(5,an)]∧Mem W aE w (ib aa 26 [sn]::aF::H)∧Ow (RI .u32) 60 aE aF an aD) ?_ ?_
  ·refine Ao (have m:=m.fr 1;AM (λaG a w=>∃aH:LI,∃aI:List (Int×Int),∃aJ:Int,(aH,aI,aJ)=aG∧∃(aK:GH) (aL:Itm) (aM:Value),GLe ay aK∧Fr a 36 [(2,pb aa),(5,an),(21,aM),(22,(iv (ap.length:Int))),(23,iv aJ)]∧Mem W aK w (ib aa 26 [sn]::aL::H)∧Ow (RI .u32) 60 aK aL an aH∧RSr P2 aK aM aI) aC ⟨_,_,_,Z,_,am,ar,gr,f.k Z,m,ao,aA⟩ ?_)
   clear aC f m
   rintro aG aN aO aP a w ⟨aH,aI,aJ,rfl,aK,aL,aM,aQ,f,m,aR,aS⟩
   refine Ae (Ah f Z Z AV λa f=>Aa (Ag ?_))
   rcases Af aO with⟨aT,aO⟩|⟨aT,aO⟩
   ·refine Al f Z aT (Ap (Ag (Ao (Ae (Bd aO λaU aV aO=>l_atR (E:=P2) T98 f Z Z Z aS aV λaW a aX f=>l_loadR (E:=P2) [iv aU.1,iv aU.2] m Ag122 f Z Z aX Z λa f=>AP (cs:=[iv 0,iv 0]) zeroValue122 m f Z Z λaY w a m f=>Am 0 0 (ds:=[iv aU.1,iv aU.2]) m sizeOf122 f Z Z Z (Ak Z (Ak Z As)) Z (lb Z) Z λw m=>Aa (Aq (Ab f Z λa f=>Bu underlying122 Z sizeOf3 f Z λa f=>AG 0 0 m Pl3 f Z Z Z Z λa f=>Bu underlying122 Z sizeOf3 f Z λa f=>AG 0 1 m Pl3 f Z Z Z Z λa f=>have m:=m.fr 2;Bd aO λaZ a0 aO=>AI f Z call24 (Wk.F m aR a0) λa1 a2 a3 w a4 m a5 a f=> ?_)))))))
    obtain⟨a6,rfl,a7⟩:=a5
    refine have aS:=RSr.mono trivial _ _ _ _ a4 aS;Aa (Aq (Ah f Z Z Ax λa f=>Ab f Z λa f=>Aa (have m:=m.fr 2;have m:=m.eraseAt 2;?_)))
    obtain rfl:=sj aO
    exact⟨_,Z,_,_,_,Z,_,a6,aM,(gt aQ a4),f.k Z,m,a7,aS⟩
   ·refine Ai f Z aT (AK Z ?_)
    obtain rfl:=sj aO
    obtain rfl:=aP _ rfl
    exact⟨_,Z,_,aL,aQ,f.k Z,m,aR⟩
  ·rintro a w ⟨aD,rfl,aE,aF,a8,f,m,a9⟩
   refine Ae (Ab f Z λa f=>have m:=m.fr 1;?_)
   obtain⟨ba,bb,m,bc⟩:=Ow.stamp (RI.mono _) a9 m
   refine Bd hd λbd be hd=>AI f Z call26 (Wk.g0 hW m bc be) λbf bg bh w bi m bj a f=> ?_
   obtain⟨bk,bl,rfl,rfl,bm⟩:=bj
   refine Am 1 0 (ds:=[bk]) m sizeOf26 f Z Z Z (Ak (Ow.one1 0 m bm Z) As) Z (lb Z) Z λw m=>Aa (Ar (have bn:=Bi (P:=prog) 1 m AJ f (s:=2) rfl rfl rfl;have m:=m.eraseAt 1;?_))
   obtain rfl:=sj hd
   exact⟨[(.agg #[bk])],⟨bn,trivial⟩,f.d,_,[bl],(gt ae (gt aw (gt az (gt a8 (gt bb bi))))),m,_,_,Z,Z,bm⟩
theorem Wk.C {x0:Int}(m:Mem W G w (H)){y:Int}(hd:D.C x0=some y):
  Calls prog 81 #[(.int .u32 x0)] w (Res W G H (λ_ Ho v=>Ho=[]∧v=(iv y))):=by
 refine Au (args:=[(.int .u32 x0)]) (N:=5) [.tmp 2] func81 Z Z (lb Z) Z λa f=> ?_
 unfold D.C at hd
 refine Ae (Ac f Z λa f=>Ay (Ab f Z λa f=>Bd hd λaa ab hd=>Bj f Z call100 (Wk.q1 m ab) λac w ad m a f=>Ac f Z λa f=>Aa (Ar ?_)))
 obtain rfl:=sj hd
 exact⟨[iv aa],f.g Z,f.d,_,[],ad,m,Z,Z⟩
end Go.Proofs.YtijemnhleooagaaGreatDoor

set_option maxRecDepth 100000
namespace Go.Proofs.YtijemnhleooagaaGreatDoor
open Go Go.Sx
open Go.Proofs.Tryz Go.Proofs.YtijemnhleooagaaGreatDoor.Tryz IntKind
variable {W w : World} {G : GH} {H : List Itm}
theorem Pl79 :B8 prog 79:=isAgg79
theorem Dy :B8 prog 97:=isAgg97
theorem Pl51 :B8 prog 51:=isAgg51
theorem Pl98 :B8 prog 98:=isAgg98
theorem Wk.U1 {x0:Int}(m:Mem W G w (H)){y:Int}(hd:D.U1 x0=some y):
  Calls prog 103 #[iv x0] w (Res W G H (λ_ Ho v=>Ho=[]∧v=(.int .u32 y))):=by
 refine Au (args:=[iv x0]) (N:=6) [.tmp 2] func103 Z Z (lb Z) Z λa f=> ?_
 unfold D.U1 at hd
 refine Ae (Ac f Z λa f=>Ay (Ab f Z λa f=> ?_))
 obtain⟨aa,hd⟩:=CO hd
 refine l_o f (r_shl (f.e Z) (f.e Z) aa) λa f=>Ah f Z Z Be λa f=>Ac f Z λa f=>Aa (Ar ?_)
 obtain rfl:=sj hd
 exact⟨[(.int .u32 (IntKind.u32.wrap ((ishl .u32 1 x0)-1)))],f.g Z,f.d,_,[],gr,m,Z,Z⟩
theorem Wk.o0 {v0:Value}{x0:LI}(m:Mem W G w (H))(h0:RSl (RI .u32) G v0 x0){y:Int}(hd:D.o0 x0=some y):
  Calls prog 83 #[v0] w (Res W G H (λ_ Ho v=>Ho=[]∧v=(.int .u32 y))):=by
 refine Au (args:=[v0]) (N:=6) [.tmp 2] func83 Z Z (lb Z) Z λa f=> ?_
 unfold D.o0 at hd
 refine Ae (Ac f Z λa f=>Ay (Ab f Z λa f=>Bg underlying51 f Z Z h0 λa f=>Bd hd λaa ab hd=>Bj f Z call103 (Wk.U1 m ab) λac w ad m a f=>Ac f Z λa f=>Aa (Ar ?_)))
 obtain rfl:=sj hd
 exact⟨[(.int .u32 aa)],f.g Z,f.d,_,[],ad,m,Z,Z⟩
theorem Wk.i1 {x0 x1:Int}(m:Mem W G w (H)){y:Bool}(hd:D.i1 x0 x1=some y):
  Calls prog 109 #[(.int .u32 x0),iv x1] w (Res W G H (λ_ Ho v=>Ho=[]∧v=(.bool y))):=by
 refine Au (args:=[(.int .u32 x0),iv x1]) (N:=10) [.tmp 4] func109 Z Z (lb Z) Z λa f=> ?_
 unfold D.i1 at hd
 refine Ae (Ac f Z λa f=>Ay (Ab f Z λa f=>Ab f Z λa f=> ?_))
 obtain⟨aa,hd⟩:=CO hd
 refine l_o f (Es (f.e Z) (f.e Z) aa) λa f=>Ah f Z Z CZ λa f=>Ah f Z Z BA λa f=>Ac f Z λa f=>Aa (Ar ?_)
 obtain rfl:=sj hd
 exact⟨[(.bool ((iand .u32 (BL .u32 x0 x1) 1)==1))],f.g Z,f.d,_,[],gr,m,Z,Z⟩
theorem Wk.p1 {v0:Value}{b2 b2s:Nat}{v2s_0 v2s_1 v2s_2 v2s_3:Value}{it2s_3:Itm}{b3:Nat}{x0:LI}{x1:Int}{x2s_0 x2s_1:LI}{x2s_2:(List (Int×Int))}{x2s_3:LL}{aa:Int}{rec_:(LI)→(LI)→((List (Int×Int)))→(LL)→Int→Int→Option (Bool×(LL))}(hrec_:∀{w:World} {G:GH} {H:List Itm} {b0:Nat} {ab ac ad ae:Value} {af:Itm} {ag ah:LI} {ai:(List (Int×Int))} {aj:LL} {x1 x2:Int} (m:Mem W G w (ib b0 101 [ab,ac,ad,ae]::af::H)) (ak:RSl (RI .u32) G ab ag) (al:R1 G ac ah) (am:RSr P2 G ad ai) (an:Ow R1 87 G af ae aj) {y:Bool×(LL)} (hd:rec_ ag ah ai aj x1 x2=some y),Calls prog 82 #[pb b0,iv x1,(.int .u32 x2)] w (Res W G H (λG' Ho v=>∃r0:Value,∃i0:Itm,Ho=[ib b0 101 [ab,ac,ad,r0],i0]∧v=(.bool y.1)∧Ow R1 87 G' i0 r0 y.2)))(m:Mem W G w (ib b2 97 [pb b2s]::ib b2s 101 [v2s_0,v2s_1,v2s_2,v2s_3]::it2s_3::ib b3 3 [iv aa]::H))(h0:R1 G v0 x0)(h2s_0:RSl (RI .u32) G v2s_0 x2s_0)(h2s_1:R1 G v2s_1 x2s_1)(h2s_2:RSr P2 G v2s_2 x2s_2)(o2s_3:Ow R1 87 G it2s_3 v2s_3 x2s_3){y:Bool×(LL)}(hd:D.p1 rec_ x0 x1 x2s_0 x2s_1 x2s_2 x2s_3 aa=some y):
  Calls prog 102 #[v0,(.int .u32 x1),pb b2,pb b3] w (Res W G H (λG' Ho v=>∃r0:Value,∃i0:Itm,Ho=[ib b2 97 [pb b2s],ib b2s 101 [v2s_0,v2s_1,v2s_2,r0],i0,ib b3 3 [iv aa]]∧v=(.bool y.1)∧Ow R1 87 G' i0 r0 y.2)):=by
 refine Au (args:=[v0,(.int .u32 x1),pb b2,pb b3]) (N:=20) [.tmp 6] func102 Z Z (lb Z) Z λa f=> ?_
 unfold D.p1 at hd
 refine Ae (Ac f Z λa f=>Aa (Ag (Ae (AG 0 0 m Dy f Z Z Z Z λa f=>AG 3 0 m Pl3 f Z Z Z Z λa f=>Ah f Z Z Ax λa f=>Ab f Z λa f=>have m:=m.fr 2;have m:=m.fr 2;Bd hd λao ap hd=>AI f Z call82 (hrec_ m h2s_0 h2s_1 h2s_2 o2s_3 ap) λaq ar au w av m aw a f=> ?_))))
 obtain⟨ax,ay,rfl,rfl,az⟩:=aw
 refine have h0:=rd1 av h0;l_o f (BN (f.e Z)) λa f=>Aa ?_
 rcases Af hd with⟨aA,hd⟩|⟨aA,hd⟩
 ·refine Al f Z aA (Ae (Ac f Z λa f=>Aa (Ar (have m:=m.fr 2;?_))))
  obtain rfl:=sj hd
  exact⟨[(.bool false)],f.g Z,f.d,_,[ib b2 97 [pb b2s],ib b2s 101 [v2s_0,v2s_1,v2s_2,ax],ay,ib b3 3 [iv aa]],av,m,_,_,Z,Z,az⟩
 ·refine Ai f Z aA (Ap (Ag (A5 7 AF (by kernel_rfl) m (Bf 0 7 2 Dy Z Z Z f Z λa f=>q_p 1 7 Z f (λ_=>AH (f.e Z)) λa f=>BE 2 7 underlying101 Z sizeOf79 Z f Z λa f=>Bf 3 7 0 Pl79 Z Z Z f Z λa f=>Bf 4 7 3 Pl3 Z Z Z f Z λa f=>Aj 5 7 Z f Z λa f=>Bd hd λaB aC hd=>A4 6 7 1 m az T79 aC Z f Z Z λaD a aE f=>AO λaF w aG m=>have h0:=rd1 aG h0;have az:=od3 aG az;AR 1 m az Z sizeOf87 f Z Z aE aC h0.cells h0.one1 h0 λaH w m aI=>Ay (Ac f Z λa f=>Aa (Ar (have m:=m.fr 2;?_)))))))
  obtain rfl:=sj hd
  exact⟨[(.bool true)],f.g Z,f.d,_,[ib b2 97 [pb b2s],ib b2s 101 [v2s_0,v2s_1,v2s_2,ax],aH,ib b3 3 [iv aa]],(gt av aG),m,_,_,Z,Z,aI⟩
theorem Wk.D0 {W:World}(hW:Cs W){rec_:(LI)→(LI)→((List (Int×Int)))→(LL)→Int→Int→Option (Bool×(LL))}(hrec_:∀{w:World} {G:GH} {H:List Itm} {b0:Nat} {aa ab ac ad:Value} {ae:Itm} {af ag:LI} {ah:(List (Int×Int))} {ai:LL} {x1 x2:Int} (m:Mem W G w (ib b0 101 [aa,ab,ac,ad]::ae::H)) (aj:RSl (RI .u32) G aa af) (ak:R1 G ab ag) (al:RSr P2 G ac ah) (am:Ow R1 87 G ae ad ai) {y:Bool×(LL)} (hd:rec_ af ag ah ai x1 x2=some y),Calls prog 82 #[pb b0,iv x1,(.int .u32 x2)] w (Res W G H (λG' Ho v=>∃r0:Value,∃i0:Itm,Ho=[ib b0 101 [aa,ab,ac,r0],i0]∧v=(.bool y.1)∧Ow R1 87 G' i0 r0 y.2)))(n:Nat):∀{w:World} {G:GH} {H:List Itm} {b0:Nat} {aa ab ac ad:Value} {ae:Itm} {v1:Value} {b5c0 b5c1:Nat} {af ag:LI} {ah:(List (Int×Int))} {ai:LL} {x1:LI} {x2 x3 x4 an:Int} (m:Mem W G w (ib b0 101 [aa,ab,ac,ad]::ae::ib b5c0 97 [pb b0]::ib b5c1 3 [iv an]::H)) (aj:RSl (RI .u32) G aa af) (ak:R1 G ab ag) (al:RSr P2 G ac ah) (am:Ow R1 87 G ae ad ai) (h1:R1 G v1 x1) {y:Bool×(LL)} (hd:D.D0 rec_ n af ag ah ai x1 x2 x3 x4 an=some y),
  Calls prog 101 #[pb b0,v1,iv x2,iv x3,(.int .u32 x4),Fw 102 #[(pb b5c0),(pb b5c1)]] w (Res W G H (λG' Ho v=>∃r0:Value,∃i0:Itm,Ho=[ib b0 101 [aa,ab,ac,r0],i0,ib b5c0 97 [pb b0],ib b5c1 3 [iv an]]∧v=(.bool y.1)∧Ow R1 87 G' i0 r0 y.2)):=by
 induction n with
 |zero=>intros;rename_i hd;simp[D.D0] at hd
 |succ fuel ih=>
  intro w G H b0 aa ab ac ad ae v1 b5c0 b5c1 af ag ah ai x1 x2 x3 x4 an m aj ak al am h1 y hd
  refine Au (args:=[pb b0,v1,iv x2,iv x3,(.int .u32 x4),Fw 102 #[(pb b5c0),(pb b5c1)]]) (N:=76) [.tmp 12] func101 Z Z (lb Z) Z λa f=> ?_
  unfold D.D0 at hd
  refine Ae (Ac f Z λa f=>Ay (Ab f Z λa f=>Ab f Z λa f=>Bg underlying87 f Z Z h1 λa f=>Ah f Z Z Be λa f=>Bd hd λao ap hd=>BI T87 f Z Z Z h1 ap λaq ar a au av f=> ?_))
  subst av
  refine A3 m Pl3 f Z Z au λa f=>Ac f Z λa f=>Aa (Ag (Ae (Ab f Z λa f=>Bg underlying87 f Z Z h1 λa f=>Ab f Z λa f=>Ah f Z Z Be λa f=>Ah f Z Z BA λa f=>Aa ?_)))
  rcases Af hd with⟨aw,hd⟩|⟨aw,hd⟩
  ·refine Al f Z aw (Ae (Ab f Z λa f=>l_o f (AH (f.e Z)) λa f=>Bu underlying101 Z sizeOf51 f Z λa f=>AG 0 0 m Pl51 f Z Z Z Z λa f=>Ab f Z λa f=>Bd hd λax ay hd=>BI T51 f Z Z Z aj ay λaz aA a aB aC f=> ?_))
   subst aC
   refine A3 m DB f Z Z aB λa f=>Ab f Z λa f=>Bd hd λaD aE hd=>Bj f Z call109 (Wk.i1 m aE) λaF w aG m a f=>have h1:=rd1 aG h1;have aj:=rd1 aG aj;have ak:=rd1 aG ak;have al:=RSr.mono trivial _ _ _ _ aG al;have am:=od3 aG am;Ab f Z λa f=>Bd hd λaH aI hd=> ?_
   refine BF 9 (λa w=>∃(aJ:GH) (aK:Value) (aL:Itm),GLe aF aJ∧Mem W aJ w (ib b0 101 [aa,ab,ac,aK]::aL::ib b5c0 97 [pb b0]::ib b5c1 3 [iv an]::H)∧Fr a 76 [(0,pb b0),(1,v1),(2,iv x2),(3,iv x3),(4,(.int .u32 x4)),(5,Fw 102 #[(pb b5c0),(pb b5c1)]),(13,iv ao),(26,(.bool ((x1.length:Int)==(i64.wrap (x2-1))))),(27,pb b0),(28,pb b0),(29,pb b0),(30,aa),(31,iv ao),(32,az),(33,(.int .u32 ax)),(34,iv x3),(35,(.bool aD)),(36,(.bool aD)),(45,(.bool aH.1))]∧Ow R1 87 aJ aL aK aH.2) ?_ ?_
   ·rcases Af aI with⟨aM,aI⟩|⟨aM,aI⟩
    ·refine AB f aM (Ab f Z λa f=>AB f aM (Ab f Z λa f=>AB f aM (Bd aI λaN aO aI=>BP f Z call110 (Wk.S m h1 aO) λaP aQ aR w aS m aT a f=>have aj:=rd1 aS aj;have ak:=rd1 aS ak;have al:=RSr.mono trivial _ _ _ _ aS al;have am:=od3 aS am;AB f aM (Ab f Z λa f=>AB f aM (A9 (R:=R0) (xs:=([x3]:LI)) (RI.one _) m T87 f Z Z Z (by decide) (All2.cons Z (All2.nil _)) λaU aV w a m aW f=>AB f aM (Bd aI λaX aY aI=>Bm (RI.one _) 1 m aT Z T87 Z (by decide) f Z Z Z (Ow.src (j:=0) aW m Z) aY λaZ a0 w a m a1 f=>AB f aM (Ab f Z λa f=>AB f aM (have m:=m.fr 1;?_))))))))
     obtain⟨a2,a3,m,a4⟩:=Ow.stamp (RI.mono _) a1 m
     refine have aj:=rd1 a3 aj;have ak:=rd1 a3 ak;have al:=RSr.mono trivial _ _ _ _ a3 al;have am:=od3 a3 am;have m:=m.fr 4;have m:=m.fr 3;have m:=m.fr 3;have m:=m.fr 4;Bd aI λa5 a6 aI=>Ff f Z Z Z call102 (Wk.p1 @hrec_ m a4 aj ak al am a6) λa7 a8 a9 w ba m bb a f=> ?_
     obtain⟨bc,bd,rfl,rfl,be⟩:=bb
     refine l_o f (AY (f.e Z) aM (f.e Z)) λa f=> ?_
     obtain rfl:=sj aI
     exact have m:=m.fr 2;have m:=m.fr 2;have m:=m.eraseAt 4;⟨_,_,_,(gt aS (gt a3 ba)),m,f.k Z,be⟩
    ·refine AC f aM λa f=>AC f aM λa f=>AC f aM λa f=>AC f aM λa f=>AC f aM λa f=>AC f aM λa f=>AC f aM λa f=>AC f aM λa f=>l_o f (AX (f.e Z) aM (f.e Z)) λa f=> ?_
     obtain rfl:=sj aI
     exact⟨_,_,_,gr,m,f.k Z,am⟩
   ·rintro a w ⟨aJ,aK,aL,bf,m,f,bg⟩
    refine Ac f Z λa f=>Aa (Ar ?_)
    obtain rfl:=sj hd
    exact⟨[(.bool aH.1)],f.g Z,f.d,_,[ib b0 101 [aa,ab,ac,aK],aL,ib b5c0 97 [pb b0],ib b5c1 3 [iv an]],(gt aG bf),m,_,_,Z,Z,bg⟩
  ·refine Ai f Z aw (Ap (Ag (Ae (Ab f Z λa f=>l_o f (AH (f.e Z)) λa f=>Bu underlying101 Z sizeOf51 f Z λa f=>AG 0 0 m Pl51 f Z Z Z Z λa f=>Ab f Z λa f=>Bd hd λbh bi hd=>BI T51 f Z Z Z aj bi λbj bk a bl bm f=> ?_))))
   subst bm
   refine A3 m DB f Z Z bl λa f=>Ab f Z λa f=>Ah f Z Z CZ λa f=>Bd hd λbn bo hd=>BP f Z call80 (Wk.r hW m bo) λbp bq br w bs m bt a f=>have h1:=rd1 bs h1;have aj:=rd1 bs aj;have ak:=rd1 bs ak;have al:=RSr.mono trivial _ _ _ _ bs al;have am:=od3 bs am;BJ 0 m bt Z underlying87 f Z Z λa f=>Ab f Z λa f=>Aa (Bd hd λbu bv hd=> ?_)
   refine AL (λa w=>∃q_223':LL,bu= .inl q_223'∧∃bw:LL,bw=q_223'∧∃(bx:GH) (bz:Value) (bA:Itm),GLe br bx∧Fr a 76 []∧Mem W bx w (ib b0 101 [aa,ab,ac,bz]::ib b5c0 97 [pb b0]::ib b5c1 3 [iv an]::bA::H)∧Ow R1 87 bx bA bz bw) ?_ ?_
   ·refine Ao (have m:=m.fr 4;have m:=m.fr 4;have m:=m.fr 3;AM (λbB a w=>∃bC:Int,∃bD:LL,(bC,bD)=bB∧∃(bE:GH) (bF:Value) (bG:Itm),GLe br bE∧Fr a 76 [(0,pb b0),(1,v1),(2,iv x2),(3,iv x3),(4,(.int .u32 x4)),(5,Fw 102 #[(pb b5c0),(pb b5c1)]),(55,bp),(56,(iv (bn.length:Int))),(57,iv bC)]∧Mem W bE w (ib b0 101 [aa,ab,ac,bF]::ib b5c0 97 [pb b0]::ib b5c1 3 [iv an]::bq::bG::H)∧Ow R1 87 bE bG bF bD) bv ⟨_,_,Z,_,ad,ae,gr,f.k Z,m,am⟩ ?_)
    clear bv f m
    rintro bB bH bI bJ a w ⟨bC,bD,rfl,bE,bF,bG,bK,f,m,bL⟩
    refine have h1:=rd1 bK h1;have aj:=rd1 bK aj;have ak:=rd1 bK ak;have al:=RSr.mono trivial _ _ _ _ bK al;have bt:=od1 bK bt;Ae (Ah f Z Z AV λa f=>Aa (Ag ?_))
    rcases Af bI with⟨bM,bI⟩|⟨bM,bI⟩
    ·refine Al f Z bM (Ap (Ag (Ao (Ae (Bd bI λbN bO bI=>Bq 3 m bt Z T87 f Z Z Z bO λbP a bQ f=>BW 3 m bt Z Pl3 f Z Z bQ bO λbR a bS f=> ?_)))))
     subst bS
     refine Ac f Z λa f=>Ay (Ab f Z λa f=>Ab f Z λa f=>Bd bI λbT bU bI=>BP f Z call110 (Wk.S m h1 bU) λbV bW bX w bY m bZ a f=>have aj:=rd1 bY aj;have ak:=rd1 bY ak;have al:=RSr.mono trivial _ _ _ _ bY al;have bL:=od3 bY bL;Ab f Z λa f=>A9 (R:=R0) (xs:=([bN]:LI)) (RI.one _) m T87 f Z Z Z (by decide) (All2.cons Z (All2.nil _)) λb1 b2 w a m b3 f=>Bd bI λb4 b5 bI=>Bm (RI.one _) 1 m bZ Z T87 Z (by decide) f Z Z Z (Ow.src (j:=0) b3 m Z) b5 λb6 b7 w a m b8 f=>Ab f Z λa f=>Ab f Z λa f=>Ab f Z λa f=>Ab f Z λa f=>Bd bI λb9 ca bI=>Bj f Z call45 (Wk.e m ca) λcb w cc m a f=>have b8:=od1 cc b8;have aj:=rd1 cc aj;have ak:=rd1 cc ak;have al:=RSr.mono trivial _ _ _ _ cc al;have bL:=od3 cc bL;Ah f Z Z DZ λa f=>Ab f Z λa f=>have m:=m.fr 1;?_)
     obtain⟨cd,ce,m,cf⟩:=Ow.stamp (RI.mono _) b8 m
     refine have aj:=rd1 ce aj;have ak:=rd1 ce ak;have al:=RSr.mono trivial _ _ _ _ ce al;have bL:=od3 ce bL;have m:=m.fr 3;have m:=m.fr 3;have m:=m.fr 5;have m:=m.fr 4;Bd bI λcg ch bI=>AI f Z call101 (ih m aj ak al bL cf ch) λci cj ck w cl m cm a f=> ?_
     obtain⟨cn,co,rfl,rfl,cp⟩:=cm
     refine Aa ?_
     rcases Af bI with⟨cq,bI⟩|⟨cq,bI⟩
     ·refine Al f Z cq (Ae (Ac f Z λa f=>Aa (Ar (have m:=m.eraseAt 5;have m:=m.eraseAt 4;?_))))
      obtain rfl:=sj bI
      obtain rfl:=bJ _ rfl
      obtain rfl:=sj hd
      exact⟨[(.bool true)],f.g Z,f.d,_,[ib b0 101 [aa,ab,ac,cn],co,ib b5c0 97 [pb b0],ib b5c1 3 [iv an]],(gt bs (gt bK (gt bY (gt cc (gt ce cl))))),m,_,_,Z,Z,cp⟩
     ·refine Ai f Z cq (Ap (Aq (Ah f Z Z Ax λa f=>Ab f Z λa f=>Aa (have m:=m.fr 5;have m:=m.fr 4;have m:=m.fr 4;have m:Mem W cj w (ib b0 101 [aa,ab,ac,cn]::ib b5c0 97 [pb b0]::ib b5c1 3 [iv an]::bq::co::b1::H):=m.fr 3;have m:=m.eraseAt 5;?_))))
      obtain rfl:=sj bI
      exact⟨_,Z,_,_,Z,_,cn,co,(gt bK (gt bY (gt cc (gt ce cl)))),f.k Z,m,cp⟩
    ·refine Ai f Z bM (AK Z (have m:=m.fr 4;have m:=m.fr 3;have m:=m.fr 3;have m:Mem W bE w (ib b0 101 [aa,ab,ac,bF]::ib b5c0 97 [pb b0]::ib b5c1 3 [iv an]::bG::bq::H):=m.fr 3;have m:=m.eraseAt 4;?_))
     obtain rfl:=sj bI
     obtain rfl:=bJ _ rfl
     exact⟨_,Z,_,Z,_,bF,bG,bK,f.weak trivial,m,bL⟩
   ·rintro a w ⟨_,rfl,bw,rfl,bx,bz,bA,cr,f,m,cs⟩
    refine Ae (Ac f Z λa f=>Aa (Ar (have m:=m.fr 3;have m:=m.fr 1;?_)))
    obtain rfl:=sj hd
    exact⟨[(.bool false)],f.g Z,f.d,_,[ib b0 101 [aa,ab,ac,bz],bA,ib b5c0 97 [pb b0],ib b5c1 3 [iv an]],(gt bs cr),m,_,_,Z,Z,cs⟩
theorem Wk.x {b0:Nat}{aa ab ac ad:Value}{ae:Itm}{v1:Value}{b5c0 b5c1:Nat}{af ag:LI}{ah:(List (Int×Int))}{ai:LL}{x1:LI}{x2 x3 x4 aj:Int}(hW:Cs W){rec_:(LI)→(LI)→((List (Int×Int)))→(LL)→Int→Int→Option (Bool×(LL))}(hrec_:∀{w:World} {G:GH} {H:List Itm} {b0:Nat} {aa ab ac ad:Value} {ae:Itm} {af ag:LI} {ah:(List (Int×Int))} {ai:LL} {x1 x2:Int} (m:Mem W G w (ib b0 101 [aa,ab,ac,ad]::ae::H)) (ak:RSl (RI .u32) G aa af) (al:R1 G ab ag) (am:RSr P2 G ac ah) (an:Ow R1 87 G ae ad ai) {y:Bool×(LL)} (hd:rec_ af ag ah ai x1 x2=some y),Calls prog 82 #[pb b0,iv x1,(.int .u32 x2)] w (Res W G H (λG' Ho v=>∃r0:Value,∃i0:Itm,Ho=[ib b0 101 [aa,ab,ac,r0],i0]∧v=(.bool y.1)∧Ow R1 87 G' i0 r0 y.2)))(m:Mem W G w (ib b0 101 [aa,ab,ac,ad]::ae::ib b5c0 97 [pb b0]::ib b5c1 3 [iv aj]::H))(ak:RSl (RI .u32) G aa af)(al:R1 G ab ag)(am:RSr P2 G ac ah)(an:Ow R1 87 G ae ad ai)(h1:R1 G v1 x1){y:Bool×(LL)}(hd:D.x rec_ af ag ah ai x1 x2 x3 x4 aj=some y):
  Calls prog 101 #[pb b0,v1,iv x2,iv x3,(.int .u32 x4),Fw 102 #[(pb b5c0),(pb b5c1)]] w (Res W G H (λG' Ho v=>∃r0:Value,∃i0:Itm,Ho=[ib b0 101 [aa,ab,ac,r0],i0,ib b5c0 97 [pb b0],ib b5c1 3 [iv aj]]∧v=(.bool y.1)∧Ow R1 87 G' i0 r0 y.2)):=by
 exact Wk.D0 hW @hrec_ BT m ak al am an h1 hd
theorem Wk.m0 {W:World}(hW:Cs W)(n:Nat):∀{w:World} {G:GH} {H:List Itm} {b0:Nat} {aa ab ac ad:Value} {ae:Itm} {af ag:LI} {ah:(List (Int×Int))} {ai:LL} {x1 x2:Int} (m:Mem W G w (ib b0 101 [aa,ab,ac,ad]::ae::H)) (aj:RSl (RI .u32) G aa af) (ak:R1 G ab ag) (al:RSr P2 G ac ah) (am:Ow R1 87 G ae ad ai) {y:Bool×(LL)} (hd:D.m0 n af ag ah ai x1 x2=some y),
  Calls prog 82 #[pb b0,iv x1,(.int .u32 x2)] w (Res W G H (λG' Ho v=>∃r0:Value,∃i0:Itm,Ho=[ib b0 101 [aa,ab,ac,r0],i0]∧v=(.bool y.1)∧Ow R1 87 G' i0 r0 y.2)):=by
 induction n with
 |zero=>intros;rename_i hd;simp[D.m0] at hd
 |succ fuel ih=>
  intro w G H b0 aa ab ac ad ae af ag ah ai x1 x2 m aj ak al am y hd
  refine Au (args:=[pb b0,iv x1,(.int .u32 x2)]) (N:=60) [.tmp 6] func82 Z Z (lb Z) Z λa f=> ?_
  unfold D.m0 at hd
  refine Ae (Bz (cs:=[pb b0]) m f Z Z Z λan w a m f=>Bz (cs:=[iv x1]) m f Z Z Z λao w a m f=>Ac f Z λa f=>Aa (Ag (Ag (A5 7 AF (by kernel_rfl) m (Bf 0 7 0 Pl3 Z Z Z f Z λa f=>Bf 1 7 1 Dy Z Z Z f Z λa f=>q_p 2 7 Z f (λ_=>AH (f.e Z)) λa f=>BE 3 7 underlying101 Z sizeOf98 Z f Z λa f=>Bf 4 7 2 Pl98 Z Z Z f Z λa f=>q_lenR (i:=5) (listed':= #[true,true,true,true,true,true,false]) 7 underlying98 al Z (by kernel_rfl) Z f Z Z Z λa f=>q_p 6 7 Z f (λ_=>A8 (f.e Z) (f.e Z) BA) λa f=>AO λap w aq m=>have al:=RSr.mono trivial _ _ _ _ aq al;have aj:=rd1 aq aj;have ak:=rd1 aq ak;have am:=od3 aq am;Aa ?_)))))
  rcases Af hd with⟨ar,hd⟩|⟨ar,hd⟩
  ·refine Al f Z ar (Ae (Ac f Z λa f=>Aa (Ar (have m:=m.fr 3;have m:=m.fr 3;have m:=m.eraseAt 3;have m:=m.eraseAt 2;?_))))
   obtain rfl:=sj hd
   exact⟨[(.bool true)],f.g Z,f.d,_,[ib b0 101 [aa,ab,ac,ad],ae],aq,m,_,_,Z,Z,am⟩
  ·refine Ai f Z ar (Ap (Ag (A5 30 AF (by kernel_rfl) m (Bf 0 30 1 Dy Z Z Z f Z λa f=>q_p 1 30 Z f (λ_=>AH (f.e Z)) λa f=>BE 2 30 underlying101 Z sizeOf87 Z f Z λa f=>Bf 3 30 2 Ds Z Z Z f Z λa f=>Bf 4 30 1 Dy Z Z Z f Z λa f=>q_p 5 30 Z f (λ_=>AH (f.e Z)) λa f=>BE 6 30 underlying101 Z sizeOf98 Z f Z λa f=>Bf 7 30 2 Pl98 Z Z Z f Z λa f=>Bf 8 30 0 Pl3 Z Z Z f Z λa f=>Bd hd λau av hd=>q_atR (i:=9) (listed':= #[true,true,true,true,true,true,true,true,true,true,false,false,false,false,false,false,false,false,false,false,false,false,false,false,false,false,false,false,false,false]) (C:=P2) 30 T98 al av Z (by kernel_rfl) Z f Z Z Z Z λaw a ax f=> ?_))))
   refine Fp (i:=10) (listed':= #[true,true,true,true,true,true,true,true,true,true,true,false,false,false,false,false,false,false,false,false,false,false,false,false,false,false,false,false,false,false]) (C:=P2) (c:=(iv au.1)) 30 underlying122 Z sizeOf3 (by decide) ax Z Z (by kernel_rfl) Z f Z Z Z λay a az f=>B3 11 30 Pl3 az Z f Z λa f=>Bd hd λaA aB hd=>Cd 12 30 T87 ak aB Z f Z Z λaC aD a aE aF f=> ?_
   subst aF
   refine B3 13 30 Pl3 aE Z f Z λa f=>Bf 14 30 1 Dy Z Z Z f Z λa f=>q_p 15 30 Z f (λ_=>AH (f.e Z)) λa f=>BE 16 30 underlying101 Z sizeOf87 Z f Z λa f=>Bf 17 30 2 Ds Z Z Z f Z λa f=>Bf 18 30 1 Dy Z Z Z f Z λa f=>q_p 19 30 Z f (λ_=>AH (f.e Z)) λa f=>BE 20 30 underlying101 Z sizeOf98 Z f Z λa f=>Bf 21 30 2 Pl98 Z Z Z f Z λa f=>Bf 22 30 0 Pl3 Z Z Z f Z λa f=>Bd hd λaG aH hd=>q_atR (i:=23) (listed':= #[true,true,true,true,true,true,true,true,true,true,true,true,true,true,true,true,true,true,true,true,true,true,true,true,false,false,false,false,false,false]) (C:=P2) 30 T98 al aH Z (by kernel_rfl) Z f Z Z Z Z λaI a aJ f=> ?_
   refine Fp (i:=24) (listed':= #[true,true,true,true,true,true,true,true,true,true,true,true,true,true,true,true,true,true,true,true,true,true,true,true,true,false,false,false,false,false]) (C:=P2) (c:=(iv aG.2)) 30 underlying122 Z sizeOf3 (by decide) aJ Z Z (by kernel_rfl) Z f Z Z Z λaK a aL f=>B3 25 30 Pl3 aL Z f Z λa f=>Bd hd λaM aN hd=>Cd 26 30 T87 ak aN Z f Z Z λaO aP a aQ aR f=> ?_
   subst aR
   refine B3 27 30 Pl3 aQ Z f Z λa f=>q_p 28 30 Z f (λ_=>Cf (f.e Z)) λa f=>q_p 29 30 Z f (λ_=>Cf (f.e Z)) λa f=>AO λaS w aT m=>have ak:=rd1 aT ak;have al:=RSr.mono trivial _ _ _ _ aT al;have aj:=rd1 aT aj;have am:=od3 aT am;Aa (Ag (Ae (Ac f Z λa f=>Aa (Bd hd λaU aV hd=> ?_))))
   refine AL (λa w=>∃q_95':LL,aU= .inl q_95'∧∃aW:LL,aW=q_95'∧∃(aX:GH) (aY:Value) (aZ:Itm),GLe aS aX∧Fr a 60 []∧Mem W aX w (ib b0 101 [aa,ab,ac,aY]::aZ::H)∧Ow R1 87 aX aZ aY aW) ?_ ?_
   ·refine Ao (have m:=m.fr 1;AM (λa0 a w=>∃a1:Int,∃a2:LL,(a1,a2)=a0∧∃(a3:GH) (a4:Value) (a5:Itm),GLe aS a3∧Fr a 60 [(2,(.int .u32 x2)),(3,pb an),(4,pb ao),(7,iv aA),(8,iv aM),(9,iv a1)]∧Mem W a3 w (ib an 97 [pb b0]::ib ao 3 [iv x1]::ib b0 101 [aa,ab,ac,a4]::a5::H)∧Ow R1 87 a3 a5 a4 a2) aV ⟨_,_,Z,_,ad,ae,gr,f.k Z,m,am⟩ ?_)
    clear aV f m
    rintro a0 a6 a7 a8 a w ⟨a1,a2,rfl,a3,a4,a5,a9,f,m,ba⟩
    refine have aj:=rd1 a9 aj;have ak:=rd1 a9 ak;have al:=RSr.mono trivial _ _ _ _ a9 al;Ag (Ae (Ab f Z λa f=>Ab f Z λa f=>Bd a7 λbb bc a7=>Bj f Z call81 (Wk.C m bc) λbd w be m a f=>have aj:=rd1 be aj;have ak:=rd1 be ak;have al:=RSr.mono trivial _ _ _ _ be al;have ba:=od3 be ba;Ah f Z Z Ax λa f=>Ah f Z Z CL λa f=>Aa ?_))
    rcases Af a7 with⟨bf,a7⟩|⟨bf,a7⟩
    ·refine Al f Z bf (Ap (Ag (Ao (Ae (AG 0 0 m Dy f Z Z Z Z λa f=>Ab f Z λa f=>A9 (R:=R0) (xs:=([aA]:LI)) (RI.one _) m T87 f Z Z Z (by decide) (All2.cons Z (All2.nil _)) λbg bh w a m bi f=>Ab f Z λa f=>Ab f Z λa f=>Ab f Z λa f=>En f Z Z Z λa f=> ?_)))))
     obtain⟨bj,bk,m,bl⟩:=Ow.stamp (RI.mono _) bi m
     refine have aj:=rd1 bk aj;have ak:=rd1 bk ak;have al:=RSr.mono trivial _ _ _ _ bk al;have ba:=od3 bk ba;have m:=m.fr 3;have m:=m.fr 3;Bd a7 λbm bn a7=>AI f Z call101 (Wk.x hW @ih m aj ak al ba bl bn) λbo bp bq w br m bs a f=> ?_
     obtain⟨bt,bu,rfl,rfl,bv⟩:=bs
     refine Aa ?_
     rcases Af a7 with⟨bw,a7⟩|⟨bw,a7⟩
     ·refine Al f Z bw (Ae (Ac f Z λa f=>Aa (Ar (have m:=m.eraseAt 3;have m:=m.eraseAt 2;?_))))
      obtain rfl:=sj a7
      obtain rfl:=a8 _ rfl
      obtain rfl:=sj hd
      exact⟨[(.bool true)],f.g Z,f.d,_,[ib b0 101 [aa,ab,ac,bt],bu],(gt aq (gt aT (gt a9 (gt be (gt bk br))))),m,_,_,Z,Z,bv⟩
     ·refine Ai f Z bw (Ap (Aq (Ab f Z λa f=>Ah f Z Z Ax λa f=>Ac f Z λa f=>Aa (have m:=m.fr 3;have m:=m.fr 3;?_))))
      obtain rfl:=sj a7
      exact⟨_,Z,_,_,Z,_,bt,bu,(gt a9 (gt be (gt bk br))),f.k Z,m,bv⟩
    ·refine Ai f Z bf (AK Z (have m:=m.fr 3;have m:=m.fr 3;have m:=m.eraseAt 3;have m:=m.eraseAt 2;?_))
     obtain rfl:=sj a7
     obtain rfl:=a8 _ rfl
     exact⟨_,Z,_,Z,_,a4,a5,(gt a9 be),f.weak trivial,m,ba⟩
   ·rintro a w ⟨_,rfl,aW,rfl,aX,aY,aZ,bx,f,m,bz⟩
    refine Ae (Ac f Z λa f=>Aa (Ar ?_))
    obtain rfl:=sj hd
    exact⟨[(.bool false)],f.g Z,f.d,_,[ib b0 101 [aa,ab,ac,aY],aZ],(gt aq (gt aT bx)),m,_,_,Z,Z,bz⟩
theorem Wk.l {b0:Nat}{aa ab ac ad:Value}{ae:Itm}{af ag:LI}{ah:(List (Int×Int))}{ai:LL}{x1 x2:Int}(hW:Cs W)(m:Mem W G w (ib b0 101 [aa,ab,ac,ad]::ae::H))(aj:RSl (RI .u32) G aa af)(ak:R1 G ab ag)(al:RSr P2 G ac ah)(am:Ow R1 87 G ae ad ai){y:Bool×(LL)}(hd:D.l af ag ah ai x1 x2=some y):
  Calls prog 82 #[pb b0,iv x1,(.int .u32 x2)] w (Res W G H (λG' Ho v=>∃r0:Value,∃i0:Itm,Ho=[ib b0 101 [aa,ab,ac,r0],i0]∧v=(.bool y.1)∧Ow R1 87 G' i0 r0 y.2)):=by
 exact Wk.m0 hW BT m aj ak al am hd
end Go.Proofs.YtijemnhleooagaaGreatDoor

set_option maxRecDepth 100000
namespace Go.Proofs.YtijemnhleooagaaGreatDoor
open Go Go.Sx
open Go.Proofs.Tryz Go.Proofs.YtijemnhleooagaaGreatDoor.Tryz IntKind
variable {W w : World} {G : GH} {H : List Itm}
end Go.Proofs.YtijemnhleooagaaGreatDoor
