/- Parts. -/
import Derived.Test.YtfmaahgchbfbiaaDoorL3
import Derived.Test.YtfmaahgchbfbiaaDoorProg
import Derived.KernelRfl
set_option linter.unusedVariables false
set_option linter.unusedSimpArgs false
set_option linter.unusedSectionVars false
set_option maxRecDepth 100000
namespace Go.Proofs.YtfmaahgchbfbiaaDoor
open Go Go.Sx
open Go.Proofs.Tryd Go.Proofs.YtfmaahgchbfbiaaDoor.Tryd IntKind
variable {W w : World} {G : GH} {H : List Itm}
theorem Wk.r0 {v0:Value}{x0:LI}{x1:Int}(m:Mem W G w (H))(h0:R1 G v0 x0){y:Bool}(hd:D.r0 x0 x1=some y):
  Calls prog 107 #[v0,(iv x1)] w (Res W G H (λ_ Ho v=>Ho=[]∧v=(.bool y))):=by
 refine Au (args:=[v0,(iv x1)]) (N:=18) [.tmp 4] func107 Z Z (lb Z) Z λa f=> ?_
 unfold D.r0 at hd
 refine Af ?_
 refine Ac f Z λa f=>Aa (Ag (Af ?_))
 refine Ac f Z λa f=>Aa ?_
 have⟨aa,ab,hd⟩:=bind_some hd
 refine AJ (λa w=>∃q_19':Unit,aa= .inl q_19'∧∃(ac:GH),GLe G ac∧Fr a 18 []∧Mem W ac w (H)) ?_ ?_
 ·refine Al ?_
  refine AE (λad a w=>∃ae:Int,ae=ad∧∃(af:GH),GLe G af∧Fr a 18 [(0,v0),(1,(iv x1)),(5,(iv ae))]∧Mem W af w (H)) ab ⟨_,Z,_,gr,f.k Z,m⟩ ?_
  clear ab f m
  rintro ad ag ah ai a w ⟨ae,rfl,af,aj,f,m⟩
  have h0:=rd1 aj h0
  refine Ag (Af ?_)
  refine Ab f Z λa f=>Ab f Z λa f=>Bd underlying43 f Z Z h0 λa f=>Ah f Z Z AQ λa f=>Aa ?_
  rcases Ae ah with⟨ak,ah⟩|⟨ak,ah⟩
  ·refine Am f Z ak ?_
   refine An ?_
   refine Ag (Al (Af ?_))
   refine Ab f Z λa f=>Ab f Z λa f=> ?_
   have⟨al,am,ah⟩:=bind_some ah
   refine By T43 f Z Z Z h0 am λan ao a ap aq f=> ?_
   subst aq
   refine AU m Pl2 f Z Z ap λa f=>Ab f Z λa f=>Ah f Z Z BF λa f=>Aa ?_
   rcases Ae ah with⟨ar,ah⟩|⟨ar,ah⟩
   ·refine Am f Z ar ?_
    refine Af ?_
    refine Ac f Z λa f=>Aa ?_
    refine Ap ?_
    obtain rfl:=sj ah
    obtain rfl:=ai _ rfl
    obtain rfl:=sj hd
    exact⟨[(.bool true)],f.g Z,f.d,_,[],aj,m,Z,Z⟩
   ·refine Aj f Z ar ?_
    refine An ?_
    refine Ak ?_
    refine Ab f Z λa f=>Ah f Z Z Ax λa f=>Ac f Z λa f=>Aa ?_
    obtain rfl:=sj ah
    exact⟨_,Z,_,Z,_,aj,f.k Z,m⟩
  ·refine Aj f Z ak ?_
   refine AB Z ?_
   obtain rfl:=sj ah
   obtain rfl:=ai _ rfl
   exact⟨_,Z,_,aj,f.weak trivial,m⟩
 ·rintro a w ⟨_,rfl,ac,au,f,m⟩
  refine Af ?_
  refine Ac f Z λa f=>Aa ?_
  refine Ap ?_
  obtain rfl:=sj hd
  exact⟨[(.bool false)],f.g Z,f.d,_,[],au,m,Z,Z⟩
theorem Wk.I {aa v1:Value}{ab:LL}{x1:LI}(m:Mem W G w (H))(ac:R2 G aa ab)(h1:R1 G v1 x1){y:(LI)}(hd:D.I ab x1=some y):
  Calls prog 42 #[(.agg #[aa]),v1] w (Res W G H (λG' Ho v=>∃r0:Value,∃i0:Itm,Ho=[i0]∧r0=v∧Ow R0 2 G' i0 r0 y)):=by
 refine Au (args:=[(.agg #[aa]),v1]) (N:=24) [.tmp 4] func42 Z Z (lb Z) Z λa f=> ?_
 unfold D.I at hd
 refine Af ?_
 refine Bu (cs:=[aa]) m f Z Z Z λad w a m f=>Ac f Z λa f=>Ay ?_
 refine Bo (R:=R0) (xs:=([]:LI)) (RI.one _) m T43 f Z Z Z (by decide) (All2.nil _) λae af w a m ag f=>Ac f Z λa f=>Aa (Ag (Af ?_))
 refine Ac f Z λa f=>Aa ?_
 have⟨ah,ai,hd⟩:=bind_some hd
 refine AJ (λa w=>∃aj:LI,aj=ah∧∃(ak:GH) (al:Value) (am:Itm),GLe G ak∧Fr a 24 [(5,al)]∧Mem W ak w (am::H)∧Ow R0 2 ak am al aj) ?_ ?_
 ·refine Al ?_
  have m:=m.fr 1
  refine AE (λan a w=>∃ao:LI,∃ap:Int,(ao,ap)=an∧∃(aq:GH) (ar:Value) (au:Itm),GLe G aq∧Fr a 24 [(1,v1),(2,(pb ad)),(5,ar),(6,(iv ap))]∧Mem W aq w (ib ad 28 [aa]::au::H)∧Ow R0 2 aq au ar ao) ai ⟨_,_,Z,_,af,ae,gr,f.k Z,m,ag⟩ ?_
  clear ai f m
  rintro an av aw ax a w ⟨ao,ap,rfl,aq,ar,au,ay,f,m,az⟩
  have h1:=rd1 ay h1
  have ac:=rd2 ay ac
  refine Ag (Af ?_)
  refine Ab f Z λa f=>Cb underlying28 Z sizeOf22 f Z λa f=>A5 0 0 m BU f Z Z Z Z λa f=>Bd underlying22 f Z Z ac λa f=>Ah f Z Z AQ λa f=>Aa ?_
  rcases Ae aw with⟨aA,aw⟩|⟨aA,aw⟩
  ·refine Am f Z aA ?_
   refine An ?_
   refine Ag (Al (Af ?_))
   refine Ab f Z λa f=>Ab f Z λa f=> ?_
   have⟨aB,aC,aw⟩:=bind_some aw
   refine A3 f Z call107 (Wk.r0 m h1 aC) λaD w aE m a f=> ?_
   have az:=od1 aE az
   refine l_o f (Bg (f.e Z)) λa f=>Aa ?_
   rcases Ae aw with⟨aF,aw⟩|⟨aF,aw⟩
   ·refine Am f Z aF ?_
    refine Ak ?_
    refine Ab f Z λa f=>Ab f Z λa f=>Bo (R:=R0) (xs:=([ap]:LI)) (RI.one _) m T43 f Z Z Z (by decide) (All2.cons Z (All2.nil _)) λaG aH w a m aI f=> ?_
    have⟨aJ,aK,aw⟩:=bind_some aw
    refine Bz (RI.one _) 2 m az Z T43 Z (by decide) f Z Z Z (Ow.src (j:=0) aI m Z) aK λaL aM w a m aN f=>Ac f Z λa f=>Aa (Ak ?_)
    refine Ab f Z λa f=>Ah f Z Z Ax λa f=>Ac f Z λa f=>Aa ?_
    have m:=m.fr 2
    have m:=m.fr 2
    have m:=m.eraseAt 2
    obtain rfl:=sj aw
    exact⟨_,Z,_,_,Z,_,aM,aL,(gt ay aE),f.k Z,m,aN⟩
   ·refine Aj f Z aF ?_
    refine An ?_
    refine Ak ?_
    refine Ab f Z λa f=>Ah f Z Z Ax λa f=>Ac f Z λa f=>Aa ?_
    obtain rfl:=sj aw
    exact⟨_,Z,_,_,Z,_,ar,au,(gt ay aE),f.k Z,m,az⟩
  ·refine Aj f Z aA ?_
   refine AB Z ?_
   have m:=m.fr 1
   have m:=m.eraseAt 1
   obtain rfl:=sj aw
   obtain rfl:=ax _ rfl
   exact⟨_,Z,_,ar,au,ay,f.k Z,m,az⟩
 ·rintro a w ⟨aj,rfl,ak,al,am,aO,f,m,aP⟩
  refine Af ?_
  refine Ab f Z λa f=>Ac f Z λa f=>Aa ?_
  refine Ap ?_
  obtain rfl:=sj hd
  exact⟨[al],f.g Z,f.d,_,[am],aO,m,_,_,Z,Z,aP⟩
theorem Wk.I0 {aa v1:Value}{ab:LL}{x1:LI}(m:Mem W G w (H))(ac:R2 G aa ab)(h1:R1 G v1 x1){y:Bool}(hd:D.I0 ab x1=some y):
  Calls prog 108 #[(.agg #[aa]),v1] w (Res W G H (λ_ Ho v=>Ho=[]∧v=(.bool y))):=by
 refine Au (args:=[(.agg #[aa]),v1]) (N:=13) [.tmp 4] func108 Z Z (lb Z) Z λa f=> ?_
 unfold D.I0 at hd
 refine Af ?_
 refine Bu (cs:=[aa]) m f Z Z Z λad w a m f=>Ac f Z λa f=>Ay ?_
 refine AG 0 0 (ds:=[aa]) m AX f Z Z Z Z Z λa f=> ?_
 have⟨ae,af,hd⟩:=bind_some hd
 refine A3 f Z call46 (Wk.j m ac af) λag w ah m a f=> ?_
 have ac:=rd2 ah ac
 have h1:=rd1 ah h1
 refine Ab f Z λa f=> ?_
 have⟨ai,aj,hd⟩:=bind_some hd
 refine Bj 5 (λa w=>∃ak,GLe ag ak∧Mem W ak w (ib ad 28 [aa]::H)∧Fr a 13 [(0,(.agg #[aa])),(1,v1),(2,(pb ad)),(5,(.agg #[aa])),(6,(.bool ae)),(7,(.bool ae)),(12,(.bool ai))]) ?_ ?_
 ·rcases Ae aj with⟨al,aj⟩|⟨al,aj⟩
  ·refine As f al ?_
   refine Ab f Z λa f=>As f al ?_
   refine AG 0 0 (ds:=[aa]) m AX f Z Z Z Z Z λa f=>As f al ?_
   have⟨am,an,aj⟩:=bind_some aj
   refine A3 f Z call76 (Wk.c m ac an) λao w ap m a f=> ?_
   have h1:=rd1 ap h1
   refine As f al ?_
   have⟨aq,ar,aj⟩:=bind_some aj
   refine A3 f Z call113 (Wk.s m h1 ar) λau w av m a f=>l_o f (AD (f.e Z) al (f.e Z)) λa f=> ?_
   obtain rfl:=sj aj
   exact⟨_,(gt ap av),m,f.k Z⟩
  ·refine Aw f al λa f=> ?_
   refine Aw f al λa f=>Aw f al λa f=>Aw f al λa f=>l_o f (AC (f.e Z) al (f.e Z)) λa f=> ?_
   obtain rfl:=sj aj
   exact⟨_,gr,m,f.k Z⟩
 ·rintro a w ⟨ak,aw,m,f⟩
  refine Ac f Z λa f=>Aa ?_
  refine Ap ?_
  have m:Mem W ak w H:=Mem.drop (H':=[ib ad 28 [aa]]) m
  obtain rfl:=sj hd
  exact⟨[(.bool ai)],f.g Z,f.d,_,[],(gt ah aw),m,Z,Z⟩
theorem Wk.y0 {aa v1:Value}{ab:LL}{x1:LI}(m:Mem W G w (H))(ac:R2 G aa ab)(h1:R1 G v1 x1){y:(LL)}(hd:D.y0 ab x1=some y):
  Calls prog 109 #[(.agg #[aa]),v1] w (Res W G H (λG' Ho v=>∃r0:Value,∃i0:Itm,Ho=[i0]∧v=(.agg #[r0])∧Ow R1 43 G' i0 r0 y)):=by
 refine Au (args:=[(.agg #[aa]),v1]) (N:=37) [.cell 4 28] func109 Z Z (lb Z) Z λa f=> ?_
 unfold D.y0 at hd
 refine Af ?_
 refine Bu (cs:=[aa]) m f Z Z Z λad w a m f=>BX (cs:=[sn]) zeroValue28 m f Z Z λae w a m f=>Ay ?_
 refine Ab f Z λa f=>Bd underlying43 f Z Z h1 λa f=> ?_
 have⟨af,ag,hd⟩:=bind_some hd
 refine AO f Z call125 (Wk.F m ag) λah ai aj w ak m al a f=> ?_
 obtain⟨am,an,rfl,rfl,ao⟩:=al
 have ac:=rd2 ak ac
 have h1:=rd1 ak h1
 refine BX (cs:=[sn]) zeroValue28 m f Z Z λap w a m f=>AV 0 0 (ds:=[am]) m sizeOf28 f Z Z Z (A1 (Ow.one1 1 m ao Z) A8) Z (lb Z) Z λw m=>Aa (Ag (Af ?_))
 refine Ac f Z λa f=>Aa ?_
 have⟨aq,ar,hd⟩:=bind_some hd
 refine AJ (λa w=>∃au:LL,au=aq∧∃(av:GH) (aw:Itm),GLe ai av∧Fr a 37 [(4,(pb ae)),(5,(pb ap))]∧Mem W av w (ib ae 28 [sn]::ib ap 28 [am]::aw::H)∧Ow R1 43 av aw am au) ?_ ?_
 ·refine Al ?_
  have m:=m.fr 2
  have m:Mem W ai w (ib ad 28 [aa]::ib ae 28 [sn]::ib ap 28 [am]::an::H):=m.fr 3
  refine AE (λax a w=>∃ay:Int,∃az:LL,(ay,az)=ax∧∃(aA:GH) (aB:Itm),GLe ai aA∧Fr a 37 [(1,v1),(2,(pb ad)),(4,(pb ae)),(5,(pb ap)),(6,(iv ay))]∧Mem W aA w (ib ad 28 [aa]::ib ae 28 [sn]::ib ap 28 [am]::aB::H)∧Ow R1 43 aA aB am az) ar ⟨_,_,Z,_,an,gr,f.k Z,m,ao⟩ ?_
  clear ar f m
  rintro ax aC aD aE a w ⟨ay,az,rfl,aA,aB,aF,f,m,aG⟩
  have h1:=rd1 aF h1
  have ac:=rd2 aF ac
  refine Ag (Af ?_)
  refine Ab f Z λa f=>Ab f Z λa f=>Bd underlying43 f Z Z h1 λa f=>Ah f Z Z AQ λa f=>Aa ?_
  rcases Ae aD with⟨aH,aD⟩|⟨aH,aD⟩
  ·refine Am f Z aH ?_
   refine An ?_
   refine Ag (Al (Af ?_))
   refine Ac f Z λa f=>Aa ?_
   have⟨aI,aJ,aD⟩:=bind_some aD
   refine AJ (λa w=>∃aK:LL,aK=aI∧∃(aL:GH) (aM:Itm),GLe aA aL∧Fr a 37 [(1,v1),(2,(pb ad)),(4,(pb ae)),(5,(pb ap)),(6,(iv ay))]∧Mem W aL w (ib ad 28 [aa]::ib ae 28 [sn]::ib ap 28 [am]::aM::H)∧Ow R1 43 aL aM am aK) ?_ ?_
   ·refine Al ?_
    refine AE (λaN a w=>∃aO:Int,∃aP:LL,(aO,aP)=aN∧∃(aQ:GH) (aR:Itm),GLe aA aQ∧Fr a 37 [(1,v1),(2,(pb ad)),(4,(pb ae)),(5,(pb ap)),(6,(iv ay)),(7,(iv aO))]∧Mem W aQ w (ib ad 28 [aa]::ib ae 28 [sn]::ib ap 28 [am]::aR::H)∧Ow R1 43 aQ aR am aP) aJ ⟨_,_,Z,_,aB,gr,f.k Z,m,aG⟩ ?_
    clear aJ f m
    rintro aN aS aT aU a w ⟨aO,aP,rfl,aQ,aR,aV,f,m,aW⟩
    have h1:=rd1 aV h1
    have ac:=rd2 aV ac
    refine Ag (Af ?_)
    refine Ab f Z λa f=>Ab f Z λa f=>Ah f Z Z AQ λa f=>Aa ?_
    rcases Ae aT with⟨aX,aT⟩|⟨aX,aT⟩
    ·refine Am f Z aX ?_
     refine An ?_
     refine Ag (Al (Ag ?_))
     refine A7 10 AI (by kernel_rfl) m ?_
     refine BW (i:=0) (ds:=[aa]) 10 0 AX Z Z Z Z (by kernel_rfl) Z f Z Z Z λa f=>Ai 1 10 Z f Z λa f=>Ai 2 10 Z f Z λa f=> ?_
     have⟨aY,aZ,aT⟩:=bind_some aT
     refine BM 3 10 T43 h1 aZ Z f Z Z λa0 a1 a a2 a3 f=> ?_
     subst a3
     refine BL 4 10 Pl2 a2 Z f Z λa f=>Ai 5 10 Z f Z λa f=>Ai 6 10 Z f Z λa f=> ?_
     have⟨a4,a5,aT⟩:=bind_some aT
     refine BM 7 10 T43 h1 a5 Z f Z Z λa6 a7 a a8 a9 f=> ?_
     subst a9
     refine BL 8 10 Pl2 a8 Z f Z λa f=> ?_
     have⟨ba,bb,aT⟩:=bind_some aT
     refine Bi (i:=9) 10 Z (by kernel_rfl) Z f Z Z Z call84 (λ_ _ w bc m=>Wk.r m (rd2 bc ac) bb) λa f=>AW λbd w be m=> ?_
     have aW:=Ow.mono (RSl.mono (RI.mono _)) be aW
     refine Aa ?_
     rcases Ae aT with⟨bf,aT⟩|⟨bf,aT⟩
     ·refine Am f Z bf ?_
      refine Ak ?_
      refine AG 2 0 (ds:=[am]) m AX f Z Z Z Z Z λa f=>Ab f Z λa f=>Ab f Z λa f=> ?_
      have m:Mem W bd w (aR::ib ad 28 [aa]::ib ae 28 [sn]::ib ap 28 [am]::H):=m.fr 3
      have⟨bg,bh,aT⟩:=bind_some aT
      refine AO f Z call126 (Wk.B m aW bh) λbi bj bk w bl m bm a f=> ?_
      obtain⟨bn,rfl,rfl,bo⟩:=bm
      refine AV 3 0 (ds:=[am]) m sizeOf28 f Z Z Z (A1 (Ow.one1 0 m bo Z) A8) Z (lb Z) Z λw m=>Aa (Ak ?_)
      refine Ab f Z λa f=>Ah f Z Z Ax λa f=>Ac f Z λa f=>Aa ?_
      have m:=m.fr 3
      have m:=m.fr 3
      have m:Mem W bj w (ib ad 28 [aa]::ib ae 28 [sn]::ib ap 28 [am]::bn::H):=m.fr 3
      obtain rfl:=sj aT
      exact⟨_,Z,_,_,Z,_,bn,(gt aV (gt be bl)),f.k Z,m,bo⟩
     ·refine Aj f Z bf ?_
      refine An ?_
      refine Ak ?_
      refine Ab f Z λa f=>Ah f Z Z Ax λa f=>Ac f Z λa f=>Aa ?_
      obtain rfl:=sj aT
      exact⟨_,Z,_,_,Z,_,aR,(gt aV be),f.k Z,m,aW⟩
    ·refine Aj f Z aX ?_
     refine AB Z ?_
     obtain rfl:=sj aT
     obtain rfl:=aU _ rfl
     exact⟨_,Z,_,aR,aV,f.k Z,m,aW⟩
   ·rintro a w ⟨aK,rfl,aL,aM,bp,f,m,bq⟩
    refine Ak ?_
    refine Ab f Z λa f=>Ah f Z Z Ax λa f=>Ac f Z λa f=>Aa ?_
    obtain rfl:=sj aD
    exact⟨_,Z,_,_,Z,_,aM,(gt aF bp),f.k Z,m,bq⟩
  ·refine Aj f Z aH ?_
   refine AB Z ?_
   have m:=m.fr 3
   have m:=m.fr 3
   have m:Mem W aA w (ib ae 28 [sn]::ib ap 28 [am]::aB::ib ad 28 [aa]::H):=m.fr 3
   have m:=m.eraseAt 3
   obtain rfl:=sj aD
   obtain rfl:=aE _ rfl
   exact⟨_,Z,_,aB,aF,f.k Z,m,aG⟩
 ·rintro a w ⟨au,rfl,av,aw,br,f,m,bs⟩
  refine Af ?_
  refine AG 1 0 (ds:=[am]) m AX f Z Z Z Z Z λa f=>AV 0 0 (ds:=[am]) m sizeOf28 f Z Z Z (A1 (Ow.one1 2 m bs Z) A8) Z (lb Z) Z λw m=>Aa ?_
  refine Ap ?_
  have bt:=C6 (P:=prog) 0 m AX f (s:=4) rfl rfl rfl
  have m:=m.fr 2
  have m:=m.eraseAt 2
  have m:=m.eraseAt 1
  obtain rfl:=sj hd
  exact⟨[(.agg #[am])],⟨bt,trivial⟩,f.d,_,[aw],(gt ak br),m,_,_,Z,Z,bs⟩
theorem Wk.x0 {aa v1:Value}{ab:LL}{x1:LI}(m:Mem W G w (H))(ac:R2 G aa ab)(h1:R1 G v1 x1){y:(LL)×Bool}(hd:D.x0 ab x1=some y):
  Calls prog 43 #[(.agg #[aa]),v1] w (Res W G H (λG' Ho v=>∃r0:Value,∃i0:Itm,Ho=[i0]∧v= .tuple #[(.agg #[r0]),(.bool y.2)]∧Ow R1 43 G' i0 r0 y.1)):=by
 refine Au (args:=[(.agg #[aa]),v1]) (N:=19) [.cell 4 28,.tmp 5] func43 Z Z (lb Z) Z λa f=> ?_
 unfold D.x0 at hd
 refine Af ?_
 refine Bu (cs:=[aa]) m f Z Z Z λad w a m f=>BX (cs:=[sn]) zeroValue28 m f Z Z λae w a m f=>Ac f Z λa f=>Aa (Ag (Af ?_))
 refine AG 1 0 (ds:=[aa]) m AX f Z Z Z Z Z λa f=>Ab f Z λa f=> ?_
 have⟨af,ag,hd⟩:=bind_some hd
 refine A3 f Z call108 (Wk.I0 m ac h1 ag) λah w ai m a f=> ?_
 have ac:=rd2 ai ac
 have h1:=rd1 ai h1
 refine l_o f (Bg (f.e Z)) λa f=>Ab f Z λa f=> ?_
 refine Bj 4 (λa w=>∃aj,GLe ah aj∧Mem W aj w (ib ae 28 [sn]::ib ad 28 [aa]::H)∧Fr a 19 [(0,(.agg #[aa])),(1,v1),(2,(pb ad)),(4,(pb ae)),(6,(.agg #[aa])),(7,v1),(8,(.bool af)),(9,(.bool (!af))),(10,(.bool (!af))),(14,(.bool ((!af)||((x1.length:Int)==0))))]) ?_ ?_
 ·rcases Bool.eq_false_or_eq_true (!af) with ak|ak
  ·refine Aw f ak λa f=> ?_
   refine Aw f ak λa f=>Aw f ak λa f=>l_o f (AD (f.e Z) ak (f.e Z)) λa f=> ?_
   exact⟨_,gr,m,f.weak ⟨Z,Z,Z,Z,Z,Z,Z,Z,Z,by rw[ak];rfl,trivial⟩⟩
  ·refine As f ak ?_
   refine Ab f Z λa f=>As f ak ?_
   refine Bd underlying43 f Z Z h1 λa f=>As f ak ?_
   refine Ah f Z Z BF λa f=>l_o f (AC (f.e Z) ak (f.e Z)) λa f=> ?_
   exact⟨_,gr,m,f.weak ⟨Z,Z,Z,Z,Z,Z,Z,Z,Z,by rw[ak];rfl,trivial⟩⟩
 ·rintro a w ⟨aj,al,m,f⟩
  have ac:=rd2 al ac
  have h1:=rd1 al h1
  refine Aa ?_
  rcases Ae hd with⟨am,hd⟩|⟨am,hd⟩
  ·refine Am f Z am ?_
   refine Af ?_
   have an:∀w,(Instr.build 28 #[]).run prog w= .ok (.agg #[sn]) w:=by intro w;simp[Instr.build,Instr.fill,Dq,Dc,CD,CN,Cw,Dp]
   refine Ec f Z Z an λa f=>AV 0 0 (ds:=[sn]) m sizeOf28 f Z Z Z (A1 Z A8) Z (lb Z) Z λw m=>Ac f Z λa f=>Aa ?_
   refine Ap ?_
   obtain⟨ao,m,ap⟩:=Ow.nil R1 43 m
   have aq:=C6 (P:=prog) 1 m AX f (s:=4) rfl rfl rfl
   have m:=m.eraseAt 2
   have m:=m.eraseAt 1
   obtain rfl:=sj hd
   exact⟨[(.agg #[sn]),(.bool false)],⟨aq,f.get _ _ Z,trivial⟩,f.d,_,[ao],(gt ai al),m,_,_,Z,Z,ap⟩
  ·refine Aj f Z am ?_
   refine An ?_
   refine Af ?_
   refine AG 1 0 (ds:=[aa]) m AX f Z Z Z Z Z λa f=>Ab f Z λa f=> ?_
   have⟨ar,au,hd⟩:=bind_some hd
   refine AO f Z call109 (Wk.y0 m ac h1 au) λav aw ax w ay m az a f=> ?_
   obtain⟨aA,aB,rfl,rfl,aC⟩:=az
   refine AV 1 0 (ds:=[aA]) m sizeOf28 f Z Z Z (A1 (Ow.one1 0 m aC Z) A8) Z (lb Z) Z λw m=>Ac f Z λa f=>Aa ?_
   refine Ap ?_
   have aD:=C6 (P:=prog) 1 m AX f (s:=4) rfl rfl rfl
   have m:=m.eraseAt 2
   have m:=m.eraseAt 1
   obtain rfl:=sj hd
   exact⟨[(.agg #[aA]),(.bool true)],⟨aD,f.get _ _ Z,trivial⟩,f.d,_,[aB],(gt ai (gt al ay)),m,_,_,Z,Z,aC⟩
theorem Wk.L0 {x0:Int}(m:Mem W G w (H)){y:(LI)}(hd:D.L0 x0=some y):
  Calls prog 111 #[(iv x0)] w (Res W G H (λG' Ho v=>∃r0:Value,∃i0:Itm,Ho=[i0]∧r0=v∧Ow R0 2 G' i0 r0 y)):=by
 refine Au (args:=[(iv x0)]) (N:=16) [.tmp 2] func111 Z Z (lb Z) Z λa f=> ?_
 unfold D.L0 at hd
 refine Af ?_
 refine Ac f Z λa f=>Ay ?_
 refine Bo (R:=R0) (xs:=([]:LI)) (RI.one _) m T43 f Z Z Z (by decide) (All2.nil _) λaa ab w a m ac f=>Ac f Z λa f=>Aa (Ag (Af ?_))
 refine Ac f Z λa f=>Aa ?_
 have⟨ad,ae,hd⟩:=bind_some hd
 refine AJ (λa w=>∃af:LI,af=ad∧∃(ag:GH) (ah:Value) (ai:Itm),GLe G ag∧Fr a 16 [(3,ah)]∧Mem W ag w (ai::H)∧Ow R0 2 ag ai ah af) ?_ ?_
 ·refine Al ?_
  refine AE (λaj a w=>∃ak:LI,∃al:Int,(ak,al)=aj∧∃(am:GH) (an:Value) (ao:Itm),GLe G am∧Fr a 16 [(0,(iv x0)),(3,an),(4,(iv al))]∧Mem W am w (ao::H)∧Ow R0 2 am ao an ak) ae ⟨_,_,Z,_,ab,aa,gr,f.k Z,m,ac⟩ ?_
  clear ae f m
  rintro aj ap aq ar a w ⟨ak,al,rfl,am,an,ao,au,f,m,av⟩
  refine Ag (Af ?_)
  refine Ab f Z λa f=>Ab f Z λa f=>Ah f Z Z AQ λa f=>Aa ?_
  rcases Ae aq with⟨aw,aq⟩|⟨aw,aq⟩
  ·refine Am f Z aw ?_
   refine An ?_
   refine Ag (Al (Ak ?_))
   refine Ab f Z λa f=>Ab f Z λa f=>Bo (R:=R0) (xs:=([al]:LI)) (RI.one _) m T43 f Z Z Z (by decide) (All2.cons Z (All2.nil _)) λax ay w a m az f=> ?_
   have⟨aA,aB,aq⟩:=bind_some aq
   refine Bz (RI.one _) 1 m av Z T43 Z (by decide) f Z Z Z (Ow.src (j:=0) az m Z) aB λaC aD w a m aE f=>Ac f Z λa f=>Aa (Ak ?_)
   refine Ab f Z λa f=>Ah f Z Z Ax λa f=>Ac f Z λa f=>Aa ?_
   have m:=m.fr 1
   have m:=m.eraseAt 1
   obtain rfl:=sj aq
   exact⟨_,Z,_,_,Z,_,aD,aC,au,f.k Z,m,aE⟩
  ·refine Aj f Z aw ?_
   refine AB Z ?_
   obtain rfl:=sj aq
   obtain rfl:=ar _ rfl
   exact⟨_,Z,_,an,ao,au,f.k Z,m,av⟩
 ·rintro a w ⟨af,rfl,ag,ah,ai,aF,f,m,aG⟩
  refine Af ?_
  refine Ab f Z λa f=>Ac f Z λa f=>Aa ?_
  refine Ap ?_
  obtain rfl:=sj hd
  exact⟨[ah],f.g Z,f.d,_,[ai],aF,m,_,_,Z,Z,aG⟩
theorem Wk.C0 {aa v2:Value}{ab:LL}{x1:Int}{x2:LI}(m:Mem W G w (H))(ac:R2 G aa ab)(h2:R1 G v2 x2){y:(LI)}(hd:D.C0 ab x1 x2=some y):
  Calls prog 161 #[(.agg #[aa]),(iv x1),v2] w (Res W G H (λG' Ho v=>∃r0:Value,∃i0:Itm,Ho=[i0]∧r0=v∧Ow R0 2 G' i0 r0 y)):=by
 refine Au (args:=[(.agg #[aa]),(iv x1),v2]) (N:=91) [.tmp 6] func161 Z Z (lb Z) Z λa f=> ?_
 unfold D.C0 at hd
 refine Af ?_
 refine Bu (cs:=[aa]) m f Z Z Z λad w a m f=>Ac f Z λa f=>Ay ?_
 refine Bo (R:=R0) (xs:=([]:LI)) (RI.one _) m T43 f Z Z Z (by decide) (All2.nil _) λae af w a m ag f=>Ac f Z λa f=>Aa (Ag (Af ?_))
 refine Ac f Z λa f=>Aa ?_
 have⟨ah,ai,hd⟩:=bind_some hd
 refine AJ (λa w=>∃aj:LI,aj=ah∧∃(ak:GH) (al:Value) (am:Itm),GLe G ak∧Fr a 91 [(1,(iv x1)),(2,v2),(3,(pb ad)),(7,al)]∧Mem W ak w (ib ad 28 [aa]::am::H)∧Ow R0 2 ak am al aj) ?_ ?_
 ·refine Al ?_
  have m:=m.fr 1
  refine AE (λan a w=>∃ao:LI,∃ap:Int,(ao,ap)=an∧∃(aq:GH) (ar:Value) (au:Itm),GLe G aq∧Fr a 91 [(1,(iv x1)),(2,v2),(3,(pb ad)),(7,ar),(8,(iv ap))]∧Mem W aq w (ib ad 28 [aa]::au::H)∧Ow R0 2 aq au ar ao) ai ⟨_,_,Z,_,af,ae,gr,f.k Z,m,ag⟩ ?_
  clear ai f m
  rintro an av aw ax a w ⟨ao,ap,rfl,aq,ar,au,ay,f,m,az⟩
  have ac:=rd2 ay ac
  refine Ag (Af ?_)
  refine Ab f Z λa f=>AG 0 0 (ds:=[aa]) m AX f Z Z Z Z Z λa f=> ?_
  have⟨aA,aB,aw⟩:=bind_some aw
  refine A3 f Z call76 (Wk.c m ac aB) λaC w aD m a f=> ?_
  have az:=od1 aD az
  refine Ah f Z Z AQ λa f=>Aa ?_
  rcases Ae aw with⟨aE,aw⟩|⟨aE,aw⟩
  ·refine Am f Z aE ?_
   refine An ?_
   refine Ag (Al (Ak ?_))
   refine Ab f Z λa f=>Bo (R:=R0) (xs:=([(-1)]:LI)) (RI.one _) m T43 f Z Z Z (by decide) (All2.cons Z (All2.nil _)) λaF aG w a m aH f=> ?_
   have⟨aI,aJ,aw⟩:=bind_some aw
   refine Bz (RI.one _) 2 m az Z T43 Z (by decide) f Z Z Z (Ow.src (j:=0) aH m Z) aJ λaK aL w a m aM f=>Ac f Z λa f=>Aa (Ak ?_)
   refine Ab f Z λa f=>Ah f Z Z Ax λa f=>Ac f Z λa f=>Aa ?_
   have m:=m.fr 2
   have m:=m.fr 2
   have m:=m.eraseAt 2
   obtain rfl:=sj aw
   exact⟨_,Z,_,_,Z,_,aL,aK,(gt ay aD),f.k Z,m,aM⟩
  ·refine Aj f Z aE ?_
   refine AB Z ?_
   obtain rfl:=sj aw
   obtain rfl:=ax _ rfl
   exact⟨_,Z,_,ar,au,(gt ay aD),f.k Z,m,az⟩
 ·rintro a w ⟨aj,rfl,ak,al,am,aN,f,m,aO⟩
  have h2:=rd1 aN h2
  have ac:=rd2 aN ac
  refine Ag (Af ?_)
  refine Ab f Z λa f=>Ab f Z λa f=> ?_
  have⟨aP,aQ,hd⟩:=bind_some hd
  refine A3 f Z call114 (Wk.f m h2 aQ) λaR w aS m a f=> ?_
  have h2:=rd1 aS h2
  have ac:=rd2 aS ac
  have aO:=od1 aS aO
  refine l_o f (Bg (f.e Z)) λa f=>Aa ?_
  rcases Ae hd with⟨aT,hd⟩|⟨aT,hd⟩
  ·refine Am f Z aT ?_
   refine Af ?_
   refine Ab f Z λa f=>Ac f Z λa f=>Aa ?_
   refine Ap ?_
   have m:=m.fr 1
   have m:=m.eraseAt 1
   obtain rfl:=sj hd
   exact⟨[al],f.g Z,f.d,_,[am],(gt aN aS),m,_,_,Z,Z,aO⟩
  ·refine Aj f Z aT ?_
   refine An ?_
   refine Af ?_
   refine Ab f Z λa f=>Ab f Z λa f=> ?_
   have⟨aU,aV,hd⟩:=bind_some hd
   refine A6 1 m aO Z T43 f Z Z Z aV λaW a aX f=>AF 1 m aO Z sizeOf2 f Z Z aX aV Z Z Z λaY w m aZ=>Ay ?_
   refine Ab f Z λa f=>Bo (R:=R0) (xs:=([x1]:LI)) (RI.one _) m T43 f Z Z Z (by decide) (All2.cons Z (All2.nil _)) λa0 a1 w a m a2 f=>Ac f Z λa f=>Aa (Ag (Af ?_))
   refine Ac f Z λa f=>Aa ?_
   have⟨a3,a4,hd⟩:=bind_some hd
   refine AJ (λa w=>∃a5:LI,a5=a3∧∃(a6:GH) (a7:Itm),GLe aR a6∧Fr a 91 [(7,al)]∧Mem W a6 w (a7::H)∧Ow R0 2 a6 a7 al a5) ?_ ?_
   ·refine Al ?_
    have m:=m.fr 2
    have m:=m.fr 2
    refine AE (λa8 a w=>∃a9:LI,∃ba:LI,∃bb:Int,(a9,ba,bb)=a8∧∃(bc:GH) (bd:Itm) (be:Value) (bf:Itm),GLe aR bc∧Fr a 91 [(2,v2),(3,(pb ad)),(7,al),(9,be),(10,(iv bb))]∧Mem W bc w (ib ad 28 [aa]::bd::bf::H)∧Ow R0 2 bc bd al a9∧Ow R0 2 bc bf be ba) a4 ⟨_,_,_,Z,_,aY,a1,a0,gr,f.k Z,m,aZ,a2⟩ ?_
    clear a4 f m
    rintro a8 bg bh bi a w ⟨a9,ba,bb,rfl,bc,bd,be,bf,bj,f,m,bk,bl⟩
    have h2:=rd1 bj h2
    have ac:=rd2 bj ac
    refine Ag (Af ?_)
    refine Ab f Z λa f=>Ab f Z λa f=>Br 2 m bl Z underlying43 f Z Z λa f=>Ah f Z Z AQ λa f=>Aa ?_
    rcases Ae bh with⟨bm,bh⟩|⟨bm,bh⟩
    ·refine Am f Z bm ?_
     refine An ?_
     refine Ag (Al (Ag ?_))
     refine A7 9 AI (by kernel_rfl) m ?_
     refine CK 0 9 underlying28 Z sizeOf22 Z f Z λa f=>Ci 1 9 0 BU Z Z Z f Z λa f=>Ai 2 9 Z f Z λa f=>Ai 3 9 Z f Z λa f=> ?_
     have⟨bn,bo,bh⟩:=bind_some bh
     refine AL 4 9 2 m bl T43 bo Z f Z Z λbp a bq f=>A4 5 9 2 bl Pl2 bq bo Z f Z λbr a bs f=> ?_
     subst bs
     have⟨bt,bu,bh⟩:=bind_some bh
     refine BM 6 9 T22 ac bu Z f Z Z λbv bw a bx bz f=>BL 7 9 Cf bx Z f Z λa f=>q_p 8 9 Z f (λ_=>A9 (f.e Z)) λa f=>AW λbA w bB m=> ?_
     have h2:=rd1 bB h2
     have bz:=rd1 bB bz
     have bk:=od1 bB bk
     have bl:=od1 bB bl
     refine Ay ?_
     refine Ac f Z λa f=>Aa ?_
     have⟨bC,bD,bh⟩:=bind_some bh
     refine AJ (λa w=>∃bE:LI,∃bF:LI,(bE,bF)=bC∧∃(bG:GH) (bH:Itm) (bI:Value) (bJ:Itm),GLe bA bG∧Fr a 91 [(2,v2),(3,(pb ad)),(7,al),(9,bI),(10,(iv bb))]∧Mem W bG w (ib ad 28 [aa]::bH::bJ::H)∧Ow R0 2 bG bH al bE∧Ow R0 2 bG bJ bI bF) ?_ ?_
     ·refine Al ?_
      refine AE (λbK a w=>∃bL:LI,∃bM:LI,∃bN:Int,(bL,bM,bN)=bK∧∃(bO:GH) (bP:Itm) (bQ:Value) (bR:Itm),GLe bA bO∧Fr a 91 [(2,v2),(3,(pb ad)),(7,al),(9,bQ),(10,(iv bb)),(11,bw),(12,(iv bN))]∧Mem W bO w (ib ad 28 [aa]::bP::bR::H)∧Ow R0 2 bO bP al bL∧Ow R0 2 bO bR bQ bM) bD ⟨_,_,_,Z,_,bd,be,bf,gr,f.k Z,m,bk,bl⟩ ?_
      clear bD f m
      rintro bK bS bT bU a w ⟨bL,bM,bN,rfl,bO,bP,bQ,bR,bV,f,m,bW,bX⟩
      have h2:=rd1 bV h2
      have bz:=rd1 bV bz
      refine Ag (Af ?_)
      refine Ab f Z λa f=>Ab f Z λa f=>Bd underlying43 f Z Z bz λa f=>Ah f Z Z AQ λa f=>Aa ?_
      rcases Ae bT with⟨bY,bT⟩|⟨bY,bT⟩
      ·refine Am f Z bY ?_
       refine An ?_
       refine Ag (Al (Af ?_))
       refine Ab f Z λa f=>Ab f Z λa f=>Ab f Z λa f=> ?_
       have⟨bZ,b0,bT⟩:=bind_some bT
       refine By T43 f Z Z Z bz b0 λb1 b2 a b3 b4 f=> ?_
       subst b4
       refine AU m Pl2 f Z Z b3 λa f=> ?_
       have⟨b5,b6,bT⟩:=bind_some bT
       refine A6 1 m bW Z T43 f Z Z Z b6 λb7 a b8 f=>BB 1 m bW Z Pl2 f Z Z b8 b6 λb9 a ca f=> ?_
       subst ca
       refine Ah f Z Z AQ λa f=>Ab f Z λa f=> ?_
       have⟨cb,cc,bT⟩:=bind_some bT
       refine Bj 7 (λa w=>∃cd,GLe bO cd∧Mem W cd w (ib ad 28 [aa]::bP::bR::H)∧Fr a 91 [(2,v2),(3,(pb ad)),(7,al),(9,bQ),(10,(iv bb)),(11,bw),(12,(iv bN)),(50,(.bool (decide (bN<(bt.length:Int))))),(53,al),(54,bw),(55,(iv bN)),(56,b1),(57,(iv bZ)),(58,b7),(59,(iv b5)),(60,(.bool (decide (b5<0)))),(61,(.bool (decide (b5<0)))),(68,(.bool cb))]) ?_ ?_
       ·rcases Ae cc with⟨ce,cc⟩|⟨ce,cc⟩
        ·refine As f ce ?_
         refine Ab f Z λa f=>As f ce ?_
         refine Ab f Z λa f=>As f ce ?_
         refine Ab f Z λa f=>As f ce ?_
         have⟨cf,cg,cc⟩:=bind_some cc
         refine By T43 f Z Z Z bz cg λch ci a cj ck f=> ?_
         subst ck
         refine As f ce ?_
         refine AU m Pl2 f Z Z cj λa f=>As f ce ?_
         have⟨cl,cm,cc⟩:=bind_some cc
         refine A3 f Z call114 (Wk.f m h2 cm) λcn w co m a f=>l_o f (AD (f.e Z) ce (f.e Z)) λa f=> ?_
         obtain rfl:=sj cc
         exact⟨_,co,m,f.k Z⟩
        ·refine Aw f ce λa f=> ?_
         refine Aw f ce λa f=>Aw f ce λa f=>Aw f ce λa f=>Aw f ce λa f=>Aw f ce λa f=>l_o f (AC (f.e Z) ce (f.e Z)) λa f=> ?_
         obtain rfl:=sj cc
         exact⟨_,gr,m,f.k Z⟩
       ·rintro a w ⟨cd,cp,m,f⟩
        have bz:=rd1 cp bz
        have bW:=od1 cp bW
        have bX:=od1 cp bX
        refine Aa ?_
        rcases Ae bT with⟨cq,bT⟩|⟨cq,bT⟩
        ·refine Am f Z cq ?_
         refine Ag ?_
         refine A7 14 AI (by kernel_rfl) m ?_
         refine Ai 0 14 Z f Z λa f=>Ai 1 14 Z f Z λa f=>Ai 2 14 Z f Z λa f=> ?_
         have⟨cr,ct,bT⟩:=bind_some bT
         refine BM 3 14 T43 bz ct Z f Z Z λcu cv a cw cx f=> ?_
         subst cx
         refine BL 4 14 Pl2 cw Z f Z λa f=>Ai 5 14 Z f Z λa f=>Ai 6 14 Z f Z λa f=>Ai 7 14 Z f Z λa f=> ?_
         have⟨cy,cz,bT⟩:=bind_some bT
         refine AL 8 14 2 m bX T43 cz Z f Z Z λcA a cB f=>A4 9 14 2 bX Pl2 cB cz Z f Z λcC a cD f=> ?_
         subst cD
         have⟨cE,cF,bT⟩:=bind_some bT
         refine AL 10 14 1 m bW T43 cF Z f Z Z λcG a cH f=>A4 11 14 1 bW Pl2 cH cF Z f Z λcI a cJ f=> ?_
         subst cJ
         refine q_p 12 14 Z f (λ_=>AK (f.e Z) (f.e Z) Ax) λa f=> ?_
         have⟨cK,cL,bT⟩:=bind_some bT
         refine AL 13 14 1 m bW T43 cL Z f Z Z λcM a cN f=>AW λcO w cP m=> ?_
         have bz:=rd1 cP bz
         have bW:=od1 cP bW
         have bX:=od1 cP bX
         refine AF 1 m bW Z sizeOf2 f Z Z cN cL Z Z Z λcQ w m cR=>Aa (Ak ?_)
         refine Ab f Z λa f=>Ab f Z λa f=>Ab f Z λa f=> ?_
         have⟨cS,cT,bT⟩:=bind_some bT
         refine By T43 f Z Z Z bz cT λcU cV a cW cX f=> ?_
         subst cX
         refine AU m Pl2 f Z Z cW λa f=>Bo (R:=R0) (xs:=([cS]:LI)) (RI.one _) m T43 f Z Z Z (by decide) (All2.cons Z (All2.nil _)) λcY cZ w a m c0 f=> ?_
         have⟨c1,c2,bT⟩:=bind_some bT
         refine Bz (RI.one _) 3 m bX Z T43 Z (by decide) f Z Z Z (Ow.src (j:=0) c0 m Z) c2 λc3 c4 w a m c5 f=>Ac f Z λa f=>Aa (Ak ?_)
         refine Ab f Z λa f=>Ah f Z Z Ax λa f=>Ac f Z λa f=>Aa ?_
         have m:=m.fr 3
         have m:=m.fr 3
         have m:Mem W cO w (ib ad 28 [aa]::cQ::c3::cY::H):=m.fr 3
         have m:=m.eraseAt 3
         obtain rfl:=sj bT
         exact⟨_,Z,_,_,_,Z,_,cQ,c4,c3,(gt bV (gt cp cP)),f.k Z,m,cR,c5⟩
        ·refine Aj f Z cq ?_
         refine An ?_
         refine Ak ?_
         refine Ab f Z λa f=>Ah f Z Z Ax λa f=>Ac f Z λa f=>Aa ?_
         obtain rfl:=sj bT
         exact⟨_,Z,_,_,_,Z,_,bP,bQ,bR,(gt bV cp),f.k Z,m,bW,bX⟩
      ·refine Aj f Z bY ?_
       refine AB Z ?_
       obtain rfl:=sj bT
       obtain rfl:=bU _ rfl
       exact⟨_,_,Z,_,bP,bQ,bR,bV,f.k Z,m,bW,bX⟩
     ·rintro a w ⟨bE,bF,rfl,bG,bH,bI,bJ,c6,f,m,c7,c8⟩
      refine Ak ?_
      refine Ab f Z λa f=>Ah f Z Z Ax λa f=>Ac f Z λa f=>Aa ?_
      obtain rfl:=sj bh
      exact⟨_,Z,_,_,_,Z,_,bH,bI,bJ,(gt bj (gt bB c6)),f.k Z,m,c7,c8⟩
    ·refine Aj f Z bm ?_
     refine AB Z ?_
     have m:=m.fr 1
     have m:=m.eraseAt 2
     have m:=m.eraseAt 1
     obtain rfl:=sj bh
     obtain rfl:=bi _ rfl
     exact⟨_,Z,_,bd,bj,f.k Z,m,bk⟩
   ·rintro a w ⟨a5,rfl,a6,a7,c9,f,m,da⟩
    refine Af ?_
    refine Ab f Z λa f=>Ac f Z λa f=>Aa ?_
    refine Ap ?_
    obtain rfl:=sj hd
    exact⟨[al],f.g Z,f.d,_,[a7],(gt aN (gt aS c9)),m,_,_,Z,Z,da⟩
theorem Wk.m {aa v2:Value}{ab:LL}{x1:Int}{x2:LI}(m:Mem W G w (H))(ac:R2 G aa ab)(h2:R1 G v2 x2){y:(LI)}(hd:D.m ab x1 x2=some y):
  Calls prog 147 #[(.agg #[aa]),(iv x1),v2] w (Res W G H (λG' Ho v=>∃r0:Value,∃i0:Itm,Ho=[i0]∧r0=v∧Ow R0 2 G' i0 r0 y)):=by
 refine Au (args:=[(.agg #[aa]),(iv x1),v2]) (N:=31) [.tmp 6] func147 Z Z (lb Z) Z λa f=> ?_
 unfold D.m at hd
 refine Af ?_
 refine Bu (cs:=[aa]) m f Z Z Z λad w a m f=>Ac f Z λa f=>Ay ?_
 refine AG 0 0 (ds:=[aa]) m AX f Z Z Z Z Z λa f=>Ab f Z λa f=>Ab f Z λa f=> ?_
 have⟨ae,af,hd⟩:=bind_some hd
 refine AO f Z call161 (Wk.C0 m ac h2 af) λag ah ai w aj m ak a f=> ?_
 obtain⟨al,am,rfl,rfl,an⟩:=ak
 refine Ac f Z λa f=>Ay ?_
 refine Bo (R:=R0) (xs:=([]:LI)) (RI.one _) m T43 f Z Z Z (by decide) (All2.nil _) λao ap w a m aq f=>Ac f Z λa f=>Aa (Ag (Af ?_))
 refine Ac f Z λa f=>Aa ?_
 have⟨ar,au,hd⟩:=bind_some hd
 refine AJ (λa w=>∃av:LI,av=ar∧∃(aw:GH) (ax:Value) (ay:Itm),GLe ah aw∧Fr a 31 [(8,ax)]∧Mem W aw w (ay::H)∧Ow R0 2 aw ay ax av) ?_ ?_
 ·refine Al ?_
  have m:=m.fr 1
  have m:=m.eraseAt 2
  refine AE (λaz a w=>∃aA:LI,∃aB:Int,(aA,aB)=az∧∃(aC:GH) (aD:Value) (aE:Itm),GLe ah aC∧Fr a 31 [(7,al),(8,aD),(9,(iv aB))]∧Mem W aC w (am::aE::H)∧Ow R0 2 aC aE aD aA) au ⟨_,_,Z,_,ap,ao,gr,f.k Z,m,aq⟩ ?_
  clear au f m
  rintro az aF aG aH a w ⟨aA,aB,rfl,aC,aD,aE,aI,f,m,aJ⟩
  have an:=od1 aI an
  refine Ag (Af ?_)
  refine Ab f Z λa f=>Ab f Z λa f=>Br 0 m an Z underlying43 f Z Z λa f=>Ah f Z Z AQ λa f=>Aa ?_
  rcases Ae aG with⟨aK,aG⟩|⟨aK,aG⟩
  ·refine Am f Z aK ?_
   refine An ?_
   refine Ag (Al (Af ?_))
   refine Ab f Z λa f=>Ab f Z λa f=> ?_
   have⟨aL,aM,aG⟩:=bind_some aG
   refine A6 0 m an Z T43 f Z Z Z aM λaN a aO f=>BB 0 m an Z Pl2 f Z Z aO aM λaP a aQ f=> ?_
   subst aQ
   refine Ah f Z Z Cj λa f=>Aa ?_
   rcases Ae aG with⟨aR,aG⟩|⟨aR,aG⟩
   ·refine Am f Z aR ?_
    refine Ak ?_
    refine Ab f Z λa f=>Ab f Z λa f=>Bo (R:=R0) (xs:=([aB]:LI)) (RI.one _) m T43 f Z Z Z (by decide) (All2.cons Z (All2.nil _)) λaS aT w a m aU f=> ?_
    have⟨aV,aW,aG⟩:=bind_some aG
    refine Bz (RI.one _) 2 m aJ Z T43 Z (by decide) f Z Z Z (Ow.src (j:=0) aU m Z) aW λaX aY w a m aZ f=>Ac f Z λa f=>Aa (Ak ?_)
    refine Ab f Z λa f=>Ah f Z Z Ax λa f=>Ac f Z λa f=>Aa ?_
    have m:=m.fr 2
    have m:=m.fr 2
    have m:=m.eraseAt 2
    obtain rfl:=sj aG
    exact⟨_,Z,_,_,Z,_,aY,aX,aI,f.k Z,m,aZ⟩
   ·refine Aj f Z aR ?_
    refine An ?_
    refine Ak ?_
    refine Ab f Z λa f=>Ah f Z Z Ax λa f=>Ac f Z λa f=>Aa ?_
    obtain rfl:=sj aG
    exact⟨_,Z,_,_,Z,_,aD,aE,aI,f.k Z,m,aJ⟩
  ·refine Aj f Z aK ?_
   refine AB Z ?_
   have m:=m.fr 1
   have m:=m.eraseAt 1
   obtain rfl:=sj aG
   obtain rfl:=aH _ rfl
   exact⟨_,Z,_,aD,aE,aI,f.k Z,m,aJ⟩
 ·rintro a w ⟨av,rfl,aw,ax,ay,a0,f,m,a1⟩
  refine Af ?_
  refine Ab f Z λa f=>Ac f Z λa f=>Aa ?_
  refine Ap ?_
  obtain rfl:=sj hd
  exact⟨[ax],f.g Z,f.d,_,[ay],(gt aj a0),m,_,_,Z,Z,a1⟩
theorem Wk.p0 {aa v1:Value}{ab:LL}{x1:LI}(m:Mem W G w (H))(ac:R2 G aa ab)(h1:R1 G v1 x1){y:(LL)}(hd:D.p0 ab x1=some y):
  Calls prog 110 #[(.agg #[aa]),v1] w (Res W G H (λG' Ho v=>∃r0:Value,∃i0:Itm,Ho=[i0]∧r0=v∧Ow R1 43 G' i0 r0 y)):=by
 refine Au (args:=[(.agg #[aa]),v1]) (N:=39) [.tmp 4] func110 Z Z (lb Z) Z λa f=> ?_
 unfold D.p0 at hd
 refine Af ?_
 refine Bu (cs:=[aa]) m f Z Z Z λad w a m f=>Ac f Z λa f=>Ay ?_
 refine Bo (R:=R1) (xs:=([]:LL)) (RSl.one _) m T22 f Z Z Z (by decide) (All2.nil _) λae af w a m ag f=>Ac f Z λa f=>Ay ?_
 refine Bo (R:=R0) (xs:=([]:LI)) (RI.one _) m T43 f Z Z Z (by decide) (All2.nil _) λah ai w a m aj f=>Ac f Z λa f=>Aa (Ag (Af ?_))
 refine Ac f Z λa f=>Aa ?_
 have⟨ak,al,hd⟩:=bind_some hd
 refine AJ (λa w=>∃am:LL,am=ak∧∃(an:GH) (ao:Value) (ap:Itm),GLe G an∧Fr a 39 [(5,ao)]∧Mem W an w (ap::H)∧Ow R1 43 an ap ao am) ?_ ?_
 ·refine Al ?_
  have m:=m.fr 1
  have m:=m.fr 2
  refine AE (λaq a w=>∃ar:LL,∃au:LI,∃av:Int,(ar,au,av)=aq∧∃(aw:GH) (ax:Value) (ay:Itm) (az:Value) (aA:Itm),GLe G aw∧Fr a 39 [(1,v1),(2,(pb ad)),(5,ax),(6,az),(7,(iv av))]∧Mem W aw w (ib ad 28 [aa]::ay::aA::H)∧Ow R1 43 aw ay ax ar∧Ow R0 2 aw aA az au) al ⟨_,_,_,Z,_,af,ae,ai,ah,gr,f.k Z,m,ag,aj⟩ ?_
  clear al f m
  rintro aq aB aC aD a w ⟨ar,au,av,rfl,aw,ax,ay,az,aA,aE,f,m,aF,aG⟩
  have h1:=rd1 aE h1
  have ac:=rd2 aE ac
  refine Ag (Af ?_)
  refine Ab f Z λa f=>Ab f Z λa f=>Bd underlying43 f Z Z h1 λa f=>Ah f Z Z AQ λa f=>Aa ?_
  rcases Ae aC with⟨aH,aC⟩|⟨aH,aC⟩
  ·refine Am f Z aH ?_
   refine An ?_
   refine Ag (Al (Af ?_))
   refine Ab f Z λa f=>Ab f Z λa f=>Ab f Z λa f=> ?_
   have⟨aI,aJ,aC⟩:=bind_some aC
   refine By T43 f Z Z Z h1 aJ λaK aL a aM aN f=> ?_
   subst aN
   refine AU m Pl2 f Z Z aM λa f=> ?_
   have⟨aO,aP,aC⟩:=bind_some aC
   refine AO f Z call114 (Ow.lendCall (RI.mono _) 2 aG m Z (λaQ aR m aS=>Wk.f m aS aP) (λ_ _ _ _ h=>h)) λaT aU aV w aW m aX a f=> ?_
   obtain⟨rfl,rfl⟩:=aX
   have h1:=rd1 aW h1
   have ac:=rd2 aW ac
   have aF:=Ow.mono (RSl.mono (RI.mono _)) aW aF
   have aG:=od1 aW aG
   refine l_o f (Bg (f.e Z)) λa f=>Aa ?_
   rcases Ae aC with⟨aY,aC⟩|⟨aY,aC⟩
   ·refine Am f Z aY ?_
    refine Ag ?_
    refine A7 8 AI (by kernel_rfl) m ?_
    refine BW (i:=0) (ds:=[aa]) 8 0 AX Z Z Z Z (by kernel_rfl) Z f Z Z Z λa f=>Ai 1 8 Z f Z λa f=>Ai 2 8 Z f Z λa f=> ?_
    have⟨aZ,a0,aC⟩:=bind_some aC
    refine BM 3 8 T43 h1 a0 Z f Z Z λa1 a2 a a3 a4 f=> ?_
    subst a4
    refine BL 4 8 Pl2 a3 Z f Z λa f=>Ai 5 8 Z f Z λa f=>q_on 6 Z λa5 w a6 m a7 a7=> ?_
    have h1:=rd1 a6 h1
    have ac:=rd2 a6 ac
    have aF:=Ow.mono (RSl.mono (RI.mono _)) a6 aF
    have aG:=od1 a6 aG
    have⟨a8,a9,aC⟩:=bind_some aC
    refine AO f Z call147 (Wk.m m ac h1 a9) λba bb bc w bd m be a f=> ?_
    obtain⟨bf,bg,rfl,rfl,bh⟩:=be
    have aF:=Ow.mono (RSl.mono (RI.mono _)) bd aF
    have aG:=od1 bd aG
    refine Aa ?_
    refine a7 bb [bg] _ _ bd m ?_
    refine q_p 7 8 Z f (λ_=>A9 (f.e Z)) λa f=>AW λbi w bj m=> ?_
    have bh:=od1 bj bh
    have aF:=Ow.mono (RSl.mono (RI.mono _)) bj aF
    have aG:=od1 bj aG
    refine Ay ?_
    refine Ab f Z λa f=>Ab f Z λa f=> ?_
    obtain⟨bk,bl,m,bm⟩:=Ow.stamp (RI.mono _) bh m
    have aF:=Ow.mono (RSl.mono (RI.mono _)) bl aF
    have aG:=od1 bl aG
    refine Bo (R:=R1) (xs:=([a8]:LL)) (RSl.one _) m T22 f Z Z Z (by decide) (All2.cons bm (All2.nil _)) λbn bo w a m bp f=> ?_
    have⟨bq,br,aC⟩:=bind_some aC
    refine Bz (RSl.one _) 2 m aF Z T22 Z (by decide) f Z Z Z (Ow.src (j:=0) bp m Z) br λbs bt w a m bu f=>Ac f Z λa f=>Aa (Ak ?_)
    refine Ab f Z λa f=>Ab f Z λa f=> ?_
    have⟨bv,bw,aC⟩:=bind_some aC
    refine Bz (RI.one _) 3 m aG Z T43 Z (by decide) f Z Z Z (bm.src m) bw λbx bz w a m bA f=>Ac f Z λa f=>Aa (Ak ?_)
    refine Ab f Z λa f=>Ah f Z Z Ax λa f=>Ac f Z λa f=>Aa ?_
    have m:=m.fr 3
    have m:=m.fr 3
    have m:Mem W bk w (ib ad 28 [aa]::bs::bx::bn::H):=m.fr 3
    have m:=m.eraseAt 3
    obtain rfl:=sj aC
    exact⟨_,Z,_,_,_,Z,_,bt,bs,bz,bx,(gt aE (gt aW (gt a6 (gt bd (gt bj bl))))),f.k Z,m,bu,bA⟩
   ·refine Aj f Z aY ?_
    refine An ?_
    refine Ak ?_
    refine Ab f Z λa f=>Ah f Z Z Ax λa f=>Ac f Z λa f=>Aa ?_
    obtain rfl:=sj aC
    exact⟨_,Z,_,_,_,Z,_,ax,ay,az,aA,(gt aE aW),f.k Z,m,aF,aG⟩
  ·refine Aj f Z aH ?_
   refine AB Z ?_
   have m:=m.fr 1
   have m:=m.eraseAt 2
   have m:=m.eraseAt 1
   obtain rfl:=sj aC
   obtain rfl:=aD _ rfl
   exact⟨_,Z,_,ax,ay,aE,f.k Z,m,aF⟩
 ·rintro a w ⟨am,rfl,an,ao,ap,bB,f,m,bC⟩
  refine Af ?_
  refine Ab f Z λa f=>Ac f Z λa f=>Aa ?_
  refine Ap ?_
  obtain rfl:=sj hd
  exact⟨[ao],f.g Z,f.d,_,[ap],bB,m,_,_,Z,Z,bC⟩
theorem Wk.X {aa:Value}{ab:LL}(m:Mem W G w (H))(ac:R2 G aa ab){y:(LL)}(hd:D.X ab=some y):
  Calls prog 44 #[(.agg #[aa])] w (Res W G H (λG' Ho v=>∃r0:Value,∃i0:Itm,Ho=[i0]∧r0=v∧Ow R1 43 G' i0 r0 y)):=by
 refine Au (args:=[(.agg #[aa])]) (N:=12) [.tmp 2] func44 Z Z (lb Z) Z λa f=> ?_
 unfold D.X at hd
 refine Af ?_
 refine Bu (cs:=[aa]) m f Z Z Z λad w a m f=>Ac f Z λa f=>Aa (Ag (Af ?_))
 refine AG 0 0 (ds:=[aa]) m AX f Z Z Z Z Z λa f=> ?_
 have⟨ae,af,hd⟩:=bind_some hd
 refine A3 f Z call46 (Wk.j m ac af) λag w ah m a f=> ?_
 have ac:=rd2 ah ac
 refine l_o f (Bg (f.e Z)) λa f=>Aa ?_
 rcases Ae hd with⟨ai,hd⟩|⟨ai,hd⟩
 ·refine Am f Z ai ?_
  refine Af ?_
  refine Bo (R:=R1) (xs:=([]:LL)) (RSl.one _) m T22 f Z Z Z (by decide) (All2.nil _) λaj ak w a m al f=>Ac f Z λa f=>Aa ?_
  refine Ap ?_
  have m:=m.eraseAt 1
  obtain rfl:=sj hd
  exact⟨[ak],f.g Z,f.d,_,[aj],ah,m,_,_,Z,Z,al⟩
 ·refine Aj f Z ai ?_
  refine An ?_
  refine Ag ?_
  refine A7 6 AI (by kernel_rfl) m ?_
  refine BW (i:=0) (ds:=[aa]) 6 0 AX Z Z Z Z (by kernel_rfl) Z f Z Z Z λa f=>BW (i:=1) (ds:=[aa]) 6 0 AX Z Z Z Z (by kernel_rfl) Z f Z Z Z λa f=> ?_
  have⟨am,an,hd⟩:=bind_some hd
  refine Bi (i:=2) 6 Z (by kernel_rfl) Z f Z Z Z call76 (λ_ _ w ao m=>Wk.c m (rd2 ao ac) an) λa f=>q_on 3 Z λap w aq m ar ar=> ?_
  have ac:=rd2 aq ac
  have⟨au,av,hd⟩:=bind_some hd
  refine AO f Z call111 (Wk.L0 m av) λaw ax ay w az m aA a f=> ?_
  obtain⟨aB,aC,rfl,rfl,aD⟩:=aA
  have ac:=rd2 az ac
  refine Aa ?_
  refine ar ax [aC] _ _ az m ?_
  refine q_on 4 Z λaE w aF m aG aG=> ?_
  have ac:=rd2 aF ac
  have aD:=od1 aF aD
  obtain⟨aH,aI,m,aJ⟩:=Ow.stamp (RI.mono _) aD m
  have ac:=rd2 aI ac
  have⟨aK,aL,hd⟩:=bind_some hd
  refine AO f Z call110 (Wk.p0 m ac aJ aL) λaM aN aO w aP m aQ a f=> ?_
  obtain⟨aR,aS,rfl,rfl,aT⟩:=aQ
  refine Aa ?_
  refine aG aN [aS] _ _ (gt aI aP) m ?_
  refine q_p 5 6 Z f (λ_=>A9 (f.e Z)) λa f=>AW λaU w aV m=> ?_
  have aT:=Ow.mono (RSl.mono (RI.mono _)) aV aT
  refine Aa ?_
  refine Ap ?_
  have m:=m.eraseAt 1
  obtain rfl:=sj hd
  exact⟨[aR],f.g Z,f.d,_,[aS],(gt ah (gt aq (gt az (gt aF (gt aI (gt aP aV)))))),m,_,_,Z,Z,aT⟩
set_option maxHeartbeats 1000000 in
theorem Wk.N0 {v0:Value}{x0:LI}(hW:Ct W)(m:Mem W G w (H))(h0:RSl (RI .u8) G v0 x0){y:Bool}(hd:D.N0 x0=some y):
  Calls prog 6 #[v0] w (Res W G H (λ_ Ho v=>Ho=[]∧v=(.bool y))):=by
 refine Au (args:=[v0]) (N:=130) [.tmp 2] func6 Z Z (lb Z) Z λa f=> ?_
 unfold D.N0 at hd
 refine Af ?_
 refine Ac f Z λa f=>Aa (Ag (Af ?_))
 refine Ab f Z λa f=> ?_
 have⟨aa,ab,hd⟩:=bind_some hd
 refine A3 f Z call16 (Wk.X0 m h0 ab) λac w ad m a f=> ?_
 have h0:=rd1 ad h0
 refine Aa ?_
 rcases Ae hd with⟨ae,hd⟩|⟨ae,hd⟩
 ·refine Am f Z ae ?_
  refine Af ?_
  refine Ac f Z λa f=>Aa ?_
  refine Ap ?_
  obtain rfl:=sj hd
  exact⟨[(.bool true)],f.g Z,f.d,_,[],ad,m,Z,Z⟩
 ·refine Aj f Z ae ?_
  refine An ?_
  refine Af ?_
  refine Ab f Z λa f=> ?_
  have⟨af,ag,hd⟩:=bind_some hd
  refine AO f Z call17 (Wk.f0 m h0 ag) λah ai aj w ak m al a f=> ?_
  obtain⟨am,an,rfl,rfl,ao⟩:=al
  refine Ac f Z λa f=>Ay ?_
  refine Ab f Z λa f=> ?_
  have⟨ap,aq,hd⟩:=bind_some hd
  refine AO f Z call33 (Wk.B0 m ao aq) λar au av w aw m ax a f=> ?_
  obtain⟨ay,az,aA,rfl,rfl,aB,aC⟩:=ax
  refine BX (cs:=[sn]) zeroValue28 m f Z Z λaD w a m f=>AV 0 0 (ds:=[ay]) m sizeOf28 f Z Z Z (A1 (Ow.one1 1 m aB Z) A8) Z (lb Z) Z λw m=>Ay ?_
  refine AG 0 0 (ds:=[ay]) m AX f Z Z Z Z Z λa f=> ?_
  have⟨aE,aF,hd⟩:=bind_some hd
  refine AO f Z call34 (Ow.lendCall (RSl.mono (RI.mono _)) 1 aB m Z (λaG aH m aI=>Wk.j0 hW m aI aF) (λ_ G' _ _ ⟨a0,a1,e1,e2,o0⟩=>⟨a0,a1,e1,e2,Ow.free (RI.free _) G' o0⟩)) λaJ aK aL w aM m aN a f=> ?_
  obtain⟨aO,aP,rfl,rfl,aQ⟩:=aN
  have aB:=Ow.mono (RSl.mono (RI.mono _)) aM aB
  refine Ab f Z λa f=>l_o f (Bn (f.e Z) Z) λa f=>l_o f (Bn (f.e Z) Z) λa f=>Ac f Z λa f=>Ac f Z λa f=>Ay ?_
  refine AG 1 0 (ds:=[ay]) m AX f Z Z Z Z Z λa f=> ?_
  have⟨aR,aS,hd⟩:=bind_some hd
  refine AO f Z call35 (Ow.lendCall (RSl.mono (RI.mono _)) 2 aB m Z (λaT aU m aV=>Wk.l0 hW m aV aS) (λ_ G' _ _ ⟨a0,a1,e1,e2,o0⟩=>⟨a0,a1,e1,e2,Ow.free (RI.free _) G' o0⟩)) λaW aX aY w aZ m a2 a f=> ?_
  obtain⟨a3,a4,rfl,rfl,a5⟩:=a2
  have aQ:=od1 aZ aQ
  have aB:=Ow.mono (RSl.mono (RI.mono _)) aZ aB
  refine Ab f Z λa f=>l_o f (Bn (f.e Z) Z) λa f=>l_o f (Bn (f.e Z) Z) λa f=>Ac f Z λa f=>Ac f Z λa f=>Ay ?_
  refine AG 2 0 (ds:=[ay]) m AX f Z Z Z Z Z λa f=> ?_
  have⟨a6,a7,hd⟩:=bind_some hd
  refine AO f Z call36 (Ow.lendCall (RSl.mono (RI.mono _)) 3 aB m Z (λa8 a9 m ba=>Wk.h hW m ba a7) (λ_ G' _ _ ⟨r0,i0,h1,h2,h3⟩=>⟨r0,i0,h1,h2,Ow.free (RI.free _) G' h3⟩)) λbb bc bd w be m bf a f=> ?_
  obtain⟨bg,bh,rfl,rfl,bi⟩:=bf
  have a5:=od1 be a5
  have aQ:=od1 be aQ
  have aB:=Ow.mono (RSl.mono (RI.mono _)) be aB
  refine Ab f Z λa f=>l_o f (Bn (f.e Z) Z) λa f=>l_o f (Bn (f.e Z) Z) λa f=>Ac f Z λa f=>Ac f Z λa f=>Ay ?_
  refine AG 3 0 (ds:=[ay]) m AX f Z Z Z Z Z λa f=> ?_
  have⟨bj,bk,hd⟩:=bind_some hd
  refine AO f Z call37 (Ow.lendCall (RSl.mono (RI.mono _)) 4 aB m Z (λbl bm m bn=>Wk.b0 hW m bn bk) (λ_ _ _ _ h=>h)) λbo bp bq w br m bs a f=> ?_
  obtain⟨rfl,rfl⟩:=bs
  have bi:=od1 br bi
  have a5:=od1 br a5
  have aQ:=od1 br aQ
  have aB:=Ow.mono (RSl.mono (RI.mono _)) br aB
  refine Ac f Z λa f=>Aa (Ag (Af ?_))
  refine Ab f Z λa f=>Ab f Z λa f=>Ah f Z Z Cc λa f=>l_o f (r_bool_neq (f.e Z) (f.e Z) underlying4) λa f=>Ab f Z λa f=> ?_
  have⟨bt,bu,hd⟩:=bind_some hd
  refine Bj 5 (λa w=>∃bv,GLe bp bv∧Mem W bv w (bh::a4::aP::ib aD 28 [ay]::az::ib an 67 [aA,(iv ap.2.2.1),(.int .u64 ap.2.2.2)]::H)∧Fr a 130 [(0,v0),(3,(pb an)),(4,(pb aD)),(5,aO),(6,(.bool aE.2)),(7,a3),(8,(.bool aR.2)),(9,bg),(10,(.bool a6.2)),(11,(iv bj)),(39,(.bool aE.2)),(40,(iv bj)),(41,(.bool (decide ((0:Int)<bj)))),(42,(.bool (aE.2 !=(decide ((0:Int)<bj))))),(43,(.bool (aE.2 !=(decide ((0:Int)<bj))))),(48,(.bool bt))]) ?_ ?_
  ·rcases Ae bu with⟨bw,bu⟩|⟨bw,bu⟩
   ·refine Aw f bw λa f=> ?_
    refine Aw f bw λa f=>Aw f bw λa f=>Aw f bw λa f=>l_o f (AD (f.e Z) bw (f.e Z)) λa f=> ?_
    obtain rfl:=sj bu
    exact⟨_,gr,m,f.k Z⟩
   ·refine As f bw ?_
    refine Ab f Z λa f=>As f bw ?_
    refine AG 3 0 (ds:=[ay]) m AX f Z Z Z Z Z λa f=>As f bw ?_
    have⟨bx,bz,bu⟩:=bind_some bu
    refine AO f Z call38 (Ow.lendCall (RSl.mono (RI.mono _)) 4 aB m Z (λbA bB m bC=>Wk.g0 m bC bz) (λ_ _ _ _ h=>h)) λbD bE bF w bG m bH a f=> ?_
    obtain⟨rfl,rfl⟩:=bH
    refine As f bw ?_
    refine Ah f Z Z Dz λa f=>l_o f (AC (f.e Z) bw (f.e Z)) λa f=> ?_
    obtain rfl:=sj bu
    exact⟨_,bG,m,f.k Z⟩
  ·rintro a w ⟨bv,bI,m,f⟩
   have bi:=od1 bI bi
   have a5:=od1 bI a5
   have aQ:=od1 bI aQ
   have aB:=Ow.mono (RSl.mono (RI.mono _)) bI aB
   refine Ab f Z λa f=> ?_
   have⟨bJ,bK,hd⟩:=bind_some hd
   refine Bj 14 (λa w=>∃bL,GLe bv bL∧Mem W bL w (bh::a4::aP::ib aD 28 [ay]::az::ib an 67 [aA,(iv ap.2.2.1),(.int .u64 ap.2.2.2)]::H)∧Fr a 130 [(0,v0),(3,(pb an)),(4,(pb aD)),(5,aO),(6,(.bool aE.2)),(7,a3),(8,(.bool aR.2)),(9,bg),(10,(.bool a6.2)),(11,(iv bj)),(39,(.bool aE.2)),(40,(iv bj)),(41,(.bool (decide ((0:Int)<bj)))),(42,(.bool (aE.2 !=(decide ((0:Int)<bj))))),(43,(.bool (aE.2 !=(decide ((0:Int)<bj))))),(48,(.bool bt)),(49,(.bool bt)),(63,(.bool bJ))]) ?_ ?_
   ·rcases Ae bK with⟨bM,bK⟩|⟨bM,bK⟩
    ·refine Aw f bM λa f=> ?_
     refine Aw f bM λa f=>BC f Z Z Z λa f=>BC f Z Z Z λa f=>BC f Z Z Z λa f=>BC f Z Z Z λa f=>BC f Z Z Z λa f=>BC f Z Z Z λa f=>BC f Z Z Z λa f=>BC f Z Z Z λa f=>BC f Z Z Z λa f=>BC f Z Z Z λa f=>Aw f bM λa f=>l_o f (AD (f.e Z) bM (f.e Z)) λa f=> ?_
     obtain rfl:=sj bK
     exact⟨_,gr,m,f.k Z⟩
    ·refine As f bM ?_
     refine Ab f Z λa f=>As f bM ?_
     refine Ab f Z λa f=> ?_
     have⟨bN,bO,bK⟩:=bind_some bK
     refine Bj 11 (λa w=>∃bP,GLe bv bP∧Mem W bP w (bh::a4::aP::ib aD 28 [ay]::az::ib an 67 [aA,(iv ap.2.2.1),(.int .u64 ap.2.2.2)]::H)∧Fr a 130 [(0,v0),(3,(pb an)),(4,(pb aD)),(5,aO),(6,(.bool aE.2)),(7,a3),(8,(.bool aR.2)),(9,bg),(10,(.bool a6.2)),(11,(iv bj)),(39,(.bool aE.2)),(40,(iv bj)),(41,(.bool (decide ((0:Int)<bj)))),(42,(.bool (aE.2 !=(decide ((0:Int)<bj))))),(43,(.bool (aE.2 !=(decide ((0:Int)<bj))))),(48,(.bool bt)),(49,(.bool bt)),(50,(.bool aE.2)),(51,(.bool aE.2)),(62,(.bool bN))]) ?_ ?_
     ·rcases Ae bO with⟨bQ,bO⟩|⟨bQ,bO⟩
      ·refine As f bQ ?_
       refine AG 3 0 (ds:=[ay]) m AX f Z Z Z Z Z λa f=>As f bQ ?_
       refine Ab f Z λa f=>As f bQ ?_
       have⟨bR,bS,bO⟩:=bind_some bO
       refine AO f Z call39 (Ow.lendCall (RSl.mono (RI.mono _)) 4 aB m Z (λbT bU m bV=>(Ow.lendCall (RI.mono _) 2 (od1 bU aQ) m Z (λbW bX m bY=>Wk.a0 m (rd2 bX bV) bY bS) (λ_ _ _ _ h=>h))) (λ_ _ _ _ h=>h)) λbZ b0 b1 w b2 m b3 a f=> ?_
       obtain⟨rfl,rfl⟩:=b3
       have aQ:=od1 b2 aQ
       have aB:=Ow.mono (RSl.mono (RI.mono _)) b2 aB
       refine As f bQ ?_
       refine l_o f (Bg (f.e Z)) λa f=>As f bQ ?_
       refine Ab f Z λa f=> ?_
       have⟨b4,b5,bO⟩:=bind_some bO
       refine Bj 5 (λa w=>∃b6,GLe b0 b6∧Mem W b6 w (bh::a4::aP::ib aD 28 [ay]::az::ib an 67 [aA,(iv ap.2.2.1),(.int .u64 ap.2.2.2)]::H)∧Fr a 130 [(0,v0),(3,(pb an)),(4,(pb aD)),(5,aO),(6,(.bool aE.2)),(7,a3),(8,(.bool aR.2)),(9,bg),(10,(.bool a6.2)),(11,(iv bj)),(39,(.bool aE.2)),(40,(iv bj)),(41,(.bool (decide ((0:Int)<bj)))),(42,(.bool (aE.2 !=(decide ((0:Int)<bj))))),(43,(.bool (aE.2 !=(decide ((0:Int)<bj))))),(48,(.bool bt)),(49,(.bool bt)),(50,(.bool aE.2)),(51,(.bool aE.2)),(52,(.agg #[ay])),(53,aO),(54,(.bool bR)),(55,(.bool (!bR))),(56,(.bool (!bR))),(61,(.bool b4))]) ?_ ?_
       ·rcases Ae b5 with⟨b7,b5⟩|⟨b7,b5⟩
        ·refine Aw f b7 λa f=> ?_
         refine Aw f b7 λa f=>Aw f b7 λa f=>Aw f b7 λa f=>As f bQ ?_
         refine l_o f (AD (f.e Z) b7 (f.e Z)) λa f=> ?_
         obtain rfl:=sj b5
         exact⟨_,gr,m,f.k Z⟩
        ·refine As f b7 ?_
         refine AG 3 0 (ds:=[ay]) m AX f Z Z Z Z Z λa f=>As f b7 ?_
         refine Ab f Z λa f=>As f b7 ?_
         have⟨b8,b9,b5⟩:=bind_some b5
         refine AO f Z call40 (Ow.lendCall (RSl.mono (RI.mono _)) 4 aB m Z (λca cb m cc=>(Ow.lendCall (RI.mono _) 2 (od1 cb aQ) m Z (λcd ce m cf=>Wk.T m (rd2 ce cc) cf b9) (λ_ _ _ _ h=>h))) (λ_ _ _ _ h=>h)) λcg ch ci w cj m ck a f=> ?_
         obtain⟨rfl,rfl⟩:=ck
         refine As f b7 ?_
         refine l_o f (Bg (f.e Z)) λa f=>As f bQ ?_
         refine l_o f (AC (f.e Z) b7 (f.e Z)) λa f=> ?_
         obtain rfl:=sj b5
         exact⟨_,cj,m,f.k Z⟩
       ·rintro a w ⟨b6,cl,m,f⟩
        refine As f bM ?_
        refine l_o f (AD (f.e Z) bQ (f.e Z)) λa f=> ?_
        obtain rfl:=sj bO
        exact⟨_,(gt b2 cl),m,f.k Z⟩
      ·refine Aw f bQ λa f=> ?_
       refine Aw f bQ λa f=>Aw f bQ λa f=>Aw f bQ λa f=>Aw f bQ λa f=>BC f Z Z Z λa f=>BC f Z Z Z λa f=>BC f Z Z Z λa f=>BC f Z Z Z λa f=>Aw f bQ λa f=>As f bM ?_
       refine l_o f (AC (f.e Z) bQ (f.e Z)) λa f=> ?_
       obtain rfl:=sj bO
       exact⟨_,gr,m,f.k Z⟩
     ·rintro a w ⟨bP,cm,m,f⟩
      refine l_o f (AC (f.e Z) bM (f.e Z)) λa f=> ?_
      obtain rfl:=sj bK
      exact⟨_,cm,m,f.k Z⟩
   ·rintro a w ⟨bL,cn,m,f⟩
    have bi:=od1 cn bi
    have a5:=od1 cn a5
    have aB:=Ow.mono (RSl.mono (RI.mono _)) cn aB
    refine Ab f Z λa f=> ?_
    refine Bj 5 (λa w=>∃co,GLe bL co∧Mem W co w (bh::a4::aP::ib aD 28 [ay]::az::ib an 67 [aA,(iv ap.2.2.1),(.int .u64 ap.2.2.2)]::H)∧Fr a 130 [(0,v0),(3,(pb an)),(4,(pb aD)),(5,aO),(6,(.bool aE.2)),(7,a3),(8,(.bool aR.2)),(9,bg),(10,(.bool a6.2)),(11,(iv bj)),(39,(.bool aE.2)),(40,(iv bj)),(41,(.bool (decide ((0:Int)<bj)))),(42,(.bool (aE.2 !=(decide ((0:Int)<bj))))),(43,(.bool (aE.2 !=(decide ((0:Int)<bj))))),(48,(.bool bt)),(49,(.bool bt)),(63,(.bool bJ)),(64,(.bool bJ)),(69,(.bool (bJ||(aE.2&&a6.2))))]) ?_ ?_
    ·rcases Bool.eq_false_or_eq_true bJ with cp|cp
     ·refine Aw f cp λa f=> ?_
      refine Aw f cp λa f=>BC f Z Z Z λa f=>Aw f cp λa f=>l_o f (AD (f.e Z) cp (f.e Z)) λa f=> ?_
      exact⟨_,gr,m,f.weak ⟨Z,Z,Z,Z,Z,Z,Z,Z,Z,Z,Z,Z,Z,Z,Z,Z,Z,Z,Z,by rw[cp];rfl,trivial⟩⟩
     ·refine As f cp ?_
      refine Ab f Z λa f=>As f cp ?_
      refine Ab f Z λa f=> ?_
      refine Bj 2 (λa w=>∃cq,GLe bL cq∧Mem W cq w (bh::a4::aP::ib aD 28 [ay]::az::ib an 67 [aA,(iv ap.2.2.1),(.int .u64 ap.2.2.2)]::H)∧Fr a 130 [(0,v0),(3,(pb an)),(4,(pb aD)),(5,aO),(6,(.bool aE.2)),(7,a3),(8,(.bool aR.2)),(9,bg),(10,(.bool a6.2)),(11,(iv bj)),(39,(.bool aE.2)),(40,(iv bj)),(41,(.bool (decide ((0:Int)<bj)))),(42,(.bool (aE.2 !=(decide ((0:Int)<bj))))),(43,(.bool (aE.2 !=(decide ((0:Int)<bj))))),(48,(.bool bt)),(49,(.bool bt)),(63,(.bool bJ)),(64,(.bool bJ)),(65,(.bool aE.2)),(66,(.bool aE.2)),(68,(.bool (aE.2&&a6.2)))]) ?_ ?_
      ·rcases Bool.eq_false_or_eq_true aE.2 with cr|cr
       ·refine As f cr ?_
        refine Ab f Z λa f=>As f cp ?_
        refine l_o f (AD (f.e Z) cr (f.e Z)) λa f=> ?_
        exact⟨_,gr,m,f.weak ⟨Z,Z,Z,Z,Z,Z,Z,Z,Z,Z,Z,Z,Z,Z,Z,Z,Z,Z,Z,Z,Z,by rw[cr];rfl,trivial⟩⟩
       ·refine Aw f cr λa f=> ?_
        refine As f cp ?_
        refine l_o f (AC (f.e Z) cr (f.e Z)) λa f=> ?_
        exact⟨_,gr,m,f.weak ⟨Z,Z,Z,Z,Z,Z,Z,Z,Z,Z,Z,Z,Z,Z,Z,Z,Z,Z,Z,Z,Z,by rw[cr];rfl,trivial⟩⟩
      ·rintro a w ⟨cq,ct,m,f⟩
       refine l_o f (AC (f.e Z) cp (f.e Z)) λa f=> ?_
       exact⟨_,ct,m,f.weak ⟨Z,Z,Z,Z,Z,Z,Z,Z,Z,Z,Z,Z,Z,Z,Z,Z,Z,Z,Z,by rw[cp];rfl,trivial⟩⟩
    ·rintro a w ⟨co,cu,m,f⟩
     have bi:=od1 cu bi
     have a5:=od1 cu a5
     have aB:=Ow.mono (RSl.mono (RI.mono _)) cu aB
     refine Ab f Z λa f=> ?_
     refine Bj 6 (λa w=>∃cv,GLe co cv∧Mem W cv w (bh::a4::aP::ib aD 28 [ay]::az::ib an 67 [aA,(iv ap.2.2.1),(.int .u64 ap.2.2.2)]::H)∧Fr a 130 [(0,v0),(3,(pb an)),(4,(pb aD)),(5,aO),(6,(.bool aE.2)),(7,a3),(8,(.bool aR.2)),(9,bg),(10,(.bool a6.2)),(11,(iv bj)),(39,(.bool aE.2)),(40,(iv bj)),(41,(.bool (decide ((0:Int)<bj)))),(42,(.bool (aE.2 !=(decide ((0:Int)<bj))))),(43,(.bool (aE.2 !=(decide ((0:Int)<bj))))),(48,(.bool bt)),(49,(.bool bt)),(63,(.bool bJ)),(64,(.bool bJ)),(69,(.bool (bJ||(aE.2&&a6.2)))),(70,(.bool (bJ||(aE.2&&a6.2)))),(76,(.bool ((bJ||(aE.2&&a6.2))||(aE.2&&(!aR.2)))))]) ?_ ?_
     ·rcases Bool.eq_false_or_eq_true (bJ||(aE.2&&a6.2)) with cw|cw
      ·refine Aw f cw λa f=> ?_
       refine Aw f cw λa f=>BC f Z Z Z λa f=>BC f Z Z Z λa f=>Aw f cw λa f=>l_o f (AD (f.e Z) cw (f.e Z)) λa f=> ?_
       exact⟨_,gr,m,f.weak ⟨Z,Z,Z,Z,Z,Z,Z,Z,Z,Z,Z,Z,Z,Z,Z,Z,Z,Z,Z,Z,Z,by rw[cw];rfl,trivial⟩⟩
      ·refine As f cw ?_
       refine Ab f Z λa f=>As f cw ?_
       refine Ab f Z λa f=> ?_
       refine Bj 3 (λa w=>∃cx,GLe co cx∧Mem W cx w (bh::a4::aP::ib aD 28 [ay]::az::ib an 67 [aA,(iv ap.2.2.1),(.int .u64 ap.2.2.2)]::H)∧Fr a 130 [(0,v0),(3,(pb an)),(4,(pb aD)),(5,aO),(6,(.bool aE.2)),(7,a3),(8,(.bool aR.2)),(9,bg),(10,(.bool a6.2)),(11,(iv bj)),(39,(.bool aE.2)),(40,(iv bj)),(41,(.bool (decide ((0:Int)<bj)))),(42,(.bool (aE.2 !=(decide ((0:Int)<bj))))),(43,(.bool (aE.2 !=(decide ((0:Int)<bj))))),(48,(.bool bt)),(49,(.bool bt)),(63,(.bool bJ)),(64,(.bool bJ)),(69,(.bool (bJ||(aE.2&&a6.2)))),(70,(.bool (bJ||(aE.2&&a6.2)))),(71,(.bool aE.2)),(72,(.bool aE.2)),(75,(.bool (aE.2&&(!aR.2))))]) ?_ ?_
       ·rcases Bool.eq_false_or_eq_true aE.2 with cy|cy
        ·refine As f cy ?_
         refine Ab f Z λa f=>As f cy ?_
         refine l_o f (Bg (f.e Z)) λa f=>As f cw ?_
         refine l_o f (AD (f.e Z) cy (f.e Z)) λa f=> ?_
         exact⟨_,gr,m,f.weak ⟨Z,Z,Z,Z,Z,Z,Z,Z,Z,Z,Z,Z,Z,Z,Z,Z,Z,Z,Z,Z,Z,Z,Z,by rw[cy];rfl,trivial⟩⟩
        ·refine Aw f cy λa f=> ?_
         refine Aw f cy λa f=>As f cw ?_
         refine l_o f (AC (f.e Z) cy (f.e Z)) λa f=> ?_
         exact⟨_,gr,m,f.weak ⟨Z,Z,Z,Z,Z,Z,Z,Z,Z,Z,Z,Z,Z,Z,Z,Z,Z,Z,Z,Z,Z,Z,Z,by rw[cy];rfl,trivial⟩⟩
       ·rintro a w ⟨cx,cz,m,f⟩
        refine l_o f (AC (f.e Z) cw (f.e Z)) λa f=> ?_
        exact⟨_,cz,m,f.weak ⟨Z,Z,Z,Z,Z,Z,Z,Z,Z,Z,Z,Z,Z,Z,Z,Z,Z,Z,Z,Z,Z,by rw[cw];rfl,trivial⟩⟩
     ·rintro a w ⟨cv,cA,m,f⟩
      have bi:=od1 cA bi
      have a5:=od1 cA a5
      have aB:=Ow.mono (RSl.mono (RI.mono _)) cA aB
      refine Aa ?_
      rcases Ae hd with⟨cB,hd⟩|⟨cB,hd⟩
      ·refine Am f Z cB ?_
       refine Af ?_
       refine Ac f Z λa f=>Aa ?_
       refine Ap ?_
       have m:Mem W cv w H:=Mem.drop (H':=[bh,a4,aP,ib aD 28 [ay],az,ib an 67 [aA,(iv ap.2.2.1),(.int .u64 ap.2.2.2)]]) m
       obtain rfl:=sj hd
       exact⟨[(.bool false)],f.g Z,f.d,_,[],(gt ad (gt ak (gt aw (gt aM (gt aZ (gt be (gt br (gt bI (gt cn (gt cu cA)))))))))),m,Z,Z⟩
      ·refine Aj f Z cB ?_
       refine An ?_
       refine Ag (Af ?_)
       refine Ab f Z λa f=>Ab f Z λa f=> ?_
       have⟨cC,cD,hd⟩:=bind_some hd
       refine Bj 5 (λa w=>∃cE,GLe cv cE∧Mem W cE w (bh::a4::aP::ib aD 28 [ay]::az::ib an 67 [aA,(iv ap.2.2.1),(.int .u64 ap.2.2.2)]::H)∧Fr a 130 [(0,v0),(3,(pb an)),(4,(pb aD)),(5,aO),(6,(.bool aE.2)),(7,a3),(8,(.bool aR.2)),(9,bg),(10,(.bool a6.2)),(11,(iv bj)),(76,(.bool ((bJ||(aE.2&&a6.2))||(aE.2&&(!aR.2))))),(77,(.bool aR.2)),(78,(.bool aR.2)),(83,(.bool cC))]) ?_ ?_
       ·rcases Ae cD with⟨cF,cD⟩|⟨cF,cD⟩
        ·refine As f cF ?_
         refine AG 3 0 (ds:=[ay]) m AX f Z Z Z Z Z λa f=>As f cF ?_
         refine Ab f Z λa f=>As f cF ?_
         have⟨cG,cH,cD⟩:=bind_some cD
         refine AO f Z call41 (Ow.lendCall (RSl.mono (RI.mono _)) 4 aB m Z (λcI cJ m cK=>(Ow.lendCall (RI.mono _) 1 (od1 cJ a5) m Z (λcL cM m cN=>Wk.y m (rd2 cM cK) cN cH) (λ_ _ _ _ h=>h))) (λ_ _ _ _ h=>h)) λcO cP cQ w cR m cS a f=> ?_
         obtain⟨rfl,rfl⟩:=cS
         refine As f cF ?_
         refine l_o f (Bg (f.e Z)) λa f=>l_o f (AD (f.e Z) cF (f.e Z)) λa f=> ?_
         obtain rfl:=sj cD
         exact⟨_,cR,m,f.k Z⟩
        ·refine Aw f cF λa f=> ?_
         refine Aw f cF λa f=>Aw f cF λa f=>Aw f cF λa f=>l_o f (AC (f.e Z) cF (f.e Z)) λa f=> ?_
         obtain rfl:=sj cD
         exact⟨_,gr,m,f.k Z⟩
       ·rintro a w ⟨cE,cT,m,f⟩
        have bi:=od1 cT bi
        have a5:=od1 cT a5
        have aB:=Ow.mono (RSl.mono (RI.mono _)) cT aB
        refine Aa ?_
        rcases Ae hd with⟨cU,hd⟩|⟨cU,hd⟩
        ·refine Am f Z cU ?_
         refine Af ?_
         refine Ac f Z λa f=>Aa ?_
         refine Ap ?_
         have m:Mem W cE w H:=Mem.drop (H':=[bh,a4,aP,ib aD 28 [ay],az,ib an 67 [aA,(iv ap.2.2.1),(.int .u64 ap.2.2.2)]]) m
         obtain rfl:=sj hd
         exact⟨[(.bool false)],f.g Z,f.d,_,[],(gt ad (gt ak (gt aw (gt aM (gt aZ (gt be (gt br (gt bI (gt cn (gt cu (gt cA cT))))))))))),m,Z,Z⟩
        ·refine Aj f Z cU ?_
         refine An ?_
         refine Ag (Af ?_)
         refine Ac f Z λa f=>Aa ?_
         have⟨cV,cW,hd⟩:=bind_some hd
         refine AJ (λa w=>∃q_771':Unit,cV= .inl q_771'∧∃(cX:GH),GLe cE cX∧Fr a 130 [(4,(pb aD)),(9,bg),(10,(.bool a6.2))]∧Mem W cX w (ib aD 28 [ay]::bh::az::H)) ?_ ?_
         ·refine Al ?_
          have m:=m.fr 4
          have m:=m.fr 1
          have m:Mem W cE w (a4::bh::az::aP::ib aD 28 [ay]::ib an 67 [aA,(iv ap.2.2.1),(.int .u64 ap.2.2.2)]::H):=m.fr 2
          have m:=m.fr 4
          have m:=m.eraseAt 5
          have m:=m.eraseAt 4
          refine AE (λcY a w=>∃cZ:Int,cZ=cY∧∃(c0:GH),GLe cE c0∧Fr a 130 [(4,(pb aD)),(7,a3),(9,bg),(10,(.bool a6.2)),(12,(iv cZ))]∧Mem W c0 w (ib aD 28 [ay]::a4::bh::az::H)) cW ⟨_,Z,_,gr,f.k Z,m⟩ ?_
          clear cW f m
          rintro cY c1 c2 c3 a w ⟨cZ,rfl,c0,c4,f,m⟩
          have a5:=od1 c4 a5
          have aB:=Ow.mono (RSl.mono (RI.mono _)) c4 aB
          refine Ag (Af ?_)
          refine Ab f Z λa f=>Ab f Z λa f=>Br 1 m a5 Z underlying43 f Z Z λa f=>Ah f Z Z AQ λa f=>Aa ?_
          rcases Ae c2 with⟨c5,c2⟩|⟨c5,c2⟩
          ·refine Am f Z c5 ?_
           refine An ?_
           refine Ag (Al (Ag ?_))
           refine A7 12 AI (by kernel_rfl) m ?_
           refine BW (i:=0) (ds:=[ay]) 12 0 AX Z Z Z Z (by kernel_rfl) Z f Z Z Z λa f=>Ai 1 12 Z f Z λa f=>Ai 2 12 Z f Z λa f=>q_p 3 12 Z f (λ_=>AK (f.e Z) (f.e Z) AR) λa f=> ?_
           have⟨c6,c7,c2⟩:=bind_some c2
           refine AL 4 12 1 m a5 T43 c7 Z f Z Z λc8 a c9 f=>A4 5 12 1 a5 Pl2 c9 c7 Z f Z λda a db f=> ?_
           subst db
           refine Ai 6 12 Z f Z λa f=>Ai 7 12 Z f Z λa f=> ?_
           have⟨dc,dd,c2⟩:=bind_some c2
           refine AL 8 12 1 m a5 T43 dd Z f Z Z λde a df f=>A4 9 12 1 a5 Pl2 df dd Z f Z λdg a dh f=> ?_
           subst dh
           have⟨di,dj,c2⟩:=bind_some c2
           refine Bi (i:=10) 12 Z (by kernel_rfl) Z f Z Z Z call29 (λ_ _ w dk m=>(Ow.lendCallR (RSl.mono (RI.mono _)) 3 (Ow.mono (RSl.mono (RI.mono _)) dk aB) m Z (λdl dm m dn=>Wk.c0 m dn dj) (λ_ _ _ _ h=>h))) λa f=>q_p 11 12 Z f (λ_=>Bg (f.e Z)) λa f=>AW λdp w dq m=>Aa ?_
           rcases Ae c2 with⟨dr,c2⟩|⟨dr,c2⟩
           ·refine Am f Z dr ?_
            refine Af ?_
            refine Ac f Z λa f=>Aa ?_
            refine Ap ?_
            have m:Mem W dp w H:=Mem.drop (H':=[ib aD 28 [ay],a4,bh,az]) m
            obtain rfl:=sj c2
            obtain rfl:=c3 _ rfl
            obtain rfl:=sj hd
            exact⟨[(.bool false)],f.g Z,f.d,_,[],(gt ad (gt ak (gt aw (gt aM (gt aZ (gt be (gt br (gt bI (gt cn (gt cu (gt cA (gt cT (gt c4 dq))))))))))))),m,Z,Z⟩
           ·refine Aj f Z dr ?_
            refine An ?_
            refine Ak ?_
            refine Ab f Z λa f=>Ah f Z Z Ax λa f=>Ac f Z λa f=>Aa ?_
            obtain rfl:=sj c2
            exact⟨_,Z,_,Z,_,(gt c4 dq),f.k Z,m⟩
          ·refine Aj f Z c5 ?_
           refine AB Z ?_
           have m:=m.fr 3
           have m:=m.fr 3
           have m:Mem W c0 w (ib aD 28 [ay]::bh::az::a4::H):=m.fr 2
           have m:=m.eraseAt 3
           obtain rfl:=sj c2
           obtain rfl:=c3 _ rfl
           exact⟨_,Z,_,c4,f.k Z,m⟩
         ·rintro a w ⟨_,rfl,cX,dt,f,m⟩
          have bi:=od1 dt bi
          have aB:=Ow.mono (RSl.mono (RI.mono _)) dt aB
          refine Ag (Af ?_)
          refine Ab f Z λa f=>l_o f (Bg (f.e Z)) λa f=>Aa ?_
          rcases Ae hd with⟨du,hd⟩|⟨du,hd⟩
          ·refine Am f Z du ?_
           refine Af ?_
           refine Ab f Z λa f=>Br 1 m bi Z underlying43 f Z Z λa f=>Ah f Z Z BF λa f=>Ac f Z λa f=>Aa ?_
           refine Ap ?_
           have m:Mem W cX w H:=Mem.drop (H':=[ib aD 28 [ay],bh,az]) m
           obtain rfl:=sj hd
           exact⟨[(.bool ((a6.1.length:Int)==0))],f.g Z,f.d,_,[],(gt ad (gt ak (gt aw (gt aM (gt aZ (gt be (gt br (gt bI (gt cn (gt cu (gt cA (gt cT dt)))))))))))),m,Z,Z⟩
          ·refine Aj f Z du ?_
           refine An ?_
           refine Af ?_
           refine AG 0 0 (ds:=[ay]) m AX f Z Z Z Z Z λa f=>Ab f Z λa f=> ?_
           have⟨dv,dw,hd⟩:=bind_some hd
           refine AO f Z call42 (Ow.lendCall (RSl.mono (RI.mono _)) 2 aB m Z (λdx dy m dz=>(Ow.lendCall (RI.mono _) 1 (od1 dy bi) m Z (λdA dB m dC=>Wk.I m (rd2 dB dz) dC dw) (λ_ G' _ _ ⟨a0,a1,e1,e2,o0⟩=>⟨a0,a1,e1,e2,Ow.free (RI.free _) G' o0⟩))) (λ_ G' _ _ ⟨a0,a1,e1,e2,o0⟩=>⟨a0,a1,e1,e2,Ow.free (RI.free _) G' o0⟩)) λdD dE dF w dG m dH a f=> ?_
           obtain⟨dI,dJ,rfl,rfl,dK⟩:=dH
           have bi:=od1 dG bi
           have aB:=Ow.mono (RSl.mono (RI.mono _)) dG aB
           refine Ac f Z λa f=>Aa (Ag (Af ?_))
           refine Ab f Z λa f=>Br 2 m bi Z underlying43 f Z Z λa f=>Ah f Z Z BF λa f=>Ab f Z λa f=> ?_
           refine Bj 4 (λa w=>∃dL,GLe dE dL∧Mem W dL w (dJ::ib aD 28 [ay]::bh::az::H)∧Fr a 130 [(4,(pb aD)),(9,bg),(10,(.bool a6.2)),(13,dI),(110,bg),(111,(iv (a6.1.length:Int))),(112,(.bool ((a6.1.length:Int)==0))),(113,(.bool ((a6.1.length:Int)==0))),(117,(.bool (((a6.1.length:Int)==0)||((dv.length:Int)==0))))]) ?_ ?_
           ·rcases Bool.eq_false_or_eq_true ((a6.1.length:Int)==0) with dM|dM
            ·refine Aw f dM λa f=> ?_
             refine Aw f dM λa f=>Aw f dM λa f=>l_o f (AD (f.e Z) dM (f.e Z)) λa f=> ?_
             exact⟨_,gr,m,f.weak ⟨Z,Z,Z,Z,Z,Z,Z,Z,by rw[dM];rfl,trivial⟩⟩
            ·refine As f dM ?_
             refine Ab f Z λa f=>As f dM ?_
             refine Br 0 m dK Z underlying43 f Z Z λa f=>As f dM ?_
             refine Ah f Z Z BF λa f=>l_o f (AC (f.e Z) dM (f.e Z)) λa f=> ?_
             exact⟨_,gr,m,f.weak ⟨Z,Z,Z,Z,Z,Z,Z,Z,by rw[dM];rfl,trivial⟩⟩
           ·rintro a w ⟨dL,dN,m,f⟩
            have dK:=od1 dN dK
            have bi:=od1 dN bi
            have aB:=Ow.mono (RSl.mono (RI.mono _)) dN aB
            refine Aa ?_
            rcases Ae hd with⟨dO,hd⟩|⟨dO,hd⟩
            ·refine Am f Z dO ?_
             refine Af ?_
             refine Ac f Z λa f=>Aa ?_
             refine Ap ?_
             have m:Mem W dL w H:=Mem.drop (H':=[dJ,ib aD 28 [ay],bh,az]) m
             obtain rfl:=sj hd
             exact⟨[(.bool false)],f.g Z,f.d,_,[],(gt ad (gt ak (gt aw (gt aM (gt aZ (gt be (gt br (gt bI (gt cn (gt cu (gt cA (gt cT (gt dt (gt dG dN)))))))))))))),m,Z,Z⟩
            ·refine Aj f Z dO ?_
             refine An ?_
             refine Af ?_
             refine AG 1 0 (ds:=[ay]) m AX f Z Z Z Z Z λa f=>Ab f Z λa f=> ?_
             have m:=m.fr 3
             obtain⟨dP,dQ,m,dR⟩:=Ow.stamp (RSl.mono (RI.mono _)) aB m
             have dK:=od1 dQ dK
             have bi:=od1 dQ bi
             obtain⟨dS,dT,m,dU⟩:=Ow.stamp (RI.mono _) dK m
             have dR:=rd2 dT dR
             have bi:=od1 dT bi
             have⟨dV,dW,hd⟩:=bind_some hd
             refine AO f Z call43 (Wk.x0 m dR dU dW) λdX dY dZ w d0 m d1 a f=> ?_
             obtain⟨d2,d3,rfl,rfl,d4⟩:=d1
             have bi:=od1 d0 bi
             refine Ab f Z λa f=>l_o f (Bn (f.e Z) Z) λa f=>l_o f (Bn (f.e Z) Z) λa f=>BX (cs:=[sn]) zeroValue28 m f Z Z λd5 w a m f=>AV 0 0 (ds:=[d2]) m sizeOf28 f Z Z Z (A1 (Ow.one1 1 m d4 Z) A8) Z (lb Z) Z λw m=>Ac f Z λa f=>Ay ?_
             refine AG 0 0 (ds:=[d2]) m AX f Z Z Z Z Z λa f=> ?_
             have m:Mem W dY w (d3::ib d5 28 [d2]::ib aD 28 [ay]::bh::H):=m.fr 1
             obtain⟨d6,d7,m,d8⟩:=Ow.stamp (RSl.mono (RI.mono _)) d4 m
             have bi:=od1 d7 bi
             have⟨d9,ea,hd⟩:=bind_some hd
             refine AO f Z call44 (Wk.X m d8 ea) λeb ec ed w ee m ef a f=> ?_
             obtain⟨eg,eh,rfl,rfl,ei⟩:=ef
             have bi:=od1 ee bi
             refine Br 0 m ei Z underlying22 f Z Z λa f=>Ab f Z λa f=>Br 3 m bi Z underlying43 f Z Z λa f=>Ah f Z Z Cc λa f=>Ac f Z λa f=>Aa ?_
             refine Ap ?_
             have m:Mem W ec w H:=Mem.drop (H':=[eh,ib d5 28 [d2],ib aD 28 [ay],bh]) m
             obtain rfl:=sj hd
             exact⟨[(.bool (decide ((a6.1.length:Int)<(d9.length:Int))))],f.g Z,f.d,_,[],(gt ad (gt ak (gt aw (gt aM (gt aZ (gt be (gt br (gt bI (gt cn (gt cu (gt cA (gt cT (gt dt (gt dG (gt dN (gt dQ (gt dT (gt d0 (gt d7 ee))))))))))))))))))),m,Z,Z⟩
end Go.Proofs.YtfmaahgchbfbiaaDoor

namespace Go.Sx
def Out (l:LI)(a0 b0 a b:Int):Prop:=∀i j,a0≤i→i<j→j<b0→¬(a≤i∧j<b)→at' l i≤at' l j
theorem Out.keep {a0 a b b0:Int}{l l':LI}(h:Rg a b l l')(h0:0≤a0)(ha:a0≤a)(hb:b≤b0)(c:Out l a0 b0 a b):Out l' a0 b0 a b:=by
 intro i j h1 h2 h3 h4
 by_cases hi:a≤i∧i<b
 ·rw[h.out j (by omega) (by omega)]
  exact h.all (λx=>x≤at' l j) (λk k1 k2=>c k j (by omega) (by omega) h3 (by omega)) i hi.1 hi.2
 ·rw[h.out i (by omega) (by omega)]
  by_cases hj:a≤j∧j<b
  ·exact h.all (λx=>at' l i≤x) (λk k1 k2=>c i k (by omega) (by omega) (by omega) (by omega)) j hj.1 hj.2
  ·rw[h.out j (by omega) (by omega)];exact c i j h1 h2 h3 h4
theorem pdqsort_spec :∀(n:Nat) (l0:LI) (a0 b0 lim:Int),0≤a0→a0≤b0→b0≤l0.length→l0.length≤1000000→b0-a0≤16→b0-a0≤12+lim→0≤lim→lim≤64→
  (0<a0→∀k,a0≤k→k<b0→at' l0 (a0-1)≤at' l0 k)→b0-a0<n→∃l',D.x n l0 a0 b0 lim=some l'∧Rg a0 b0 l0 l'∧Srt l' a0 b0:=by
 intro n
 induction n with
 |zero=>intro l0 a0 b0 lim h1 h2 h3 h4 h5 h6 h7 h8 h9 h10;omega
 |succ n ih=>
  intro l0 a0 b0 lim h1 h2 h3 h4 h5 h6 h7 h8 h9 h10
  unfold D.x
  refine AS (λs=>Rg a0 b0 l0 s.1∧Out s.1 a0 b0 s.2.1 s.2.2.1∧a0≤s.2.1∧s.2.1≤s.2.2.1∧s.2.2.1≤b0∧s.2.2.1-s.2.1≤12+s.2.2.2.1∧0≤s.2.2.2.1∧s.2.2.2.1≤64∧(0<s.2.1→∀k,s.2.1≤k→k<s.2.2.1→at' s.1 (s.2.1-1)≤at' s.1 k))
   (λs=>(s.2.2.1-s.2.1).toNat) (λr=>Rg a0 b0 l0 r∧Srt r a0 b0) ?_ ?_ ?_
  ·rintro⟨l,a,b,lm,bal,par⟩ ⟨hR,hO,g1,g2,g3,g4,g5,g6,g7⟩
   dsimp only at hR hO g1 g2 g3 g4 g5 g6 g7 ⊢
   have hll:=hR.len
   have fin:∀l',Rg a b l l'→Srt l' a b→Rg a0 b0 l0 l'∧Srt l' a0 b0:=λl' hr hs=>
    ⟨hR.trans (hr.widen g1 g3 h1),λi j k1 k2 k3=>by
     by_cases hc:a≤i∧j<b
     ·exact hs i j hc.1 k2 hc.2
     ·exact(hO.keep hr h1 g1 g3) i j k1 k2 k3 hc⟩
   rw[w64 (show-9223372036854775808≤b-a by omega) (by omega)]
   by_cases hs:b-a≤12
   ·obtain⟨l',e,r1,r2⟩:=ED l a b (by omega) g2 (by omega) (by omega)
    refine⟨.inr l',?_,fin l' r1 r2⟩
    simp only[hs,decide_true,cond_true,e,bs]
   ·have hl0:(lm==0)=false:=by simp;omega
    simp only[hs,decide_false,cond_false,hl0]
    refine CE (λq:LI×Int=>Rg a b l q.1∧b-a≤13+q.2∧0≤q.2∧q.2≤64) ?_ ?_
    ·cases bal
     ·obtain⟨l1,e,r1⟩:=EC l a b (by omega) (by omega) (by omega) (by omega) (by omega)
      refine⟨(l1,lm-1),?_,r1,by dsimp only;omega,by dsimp only;omega,by dsimp only;omega⟩
      simp only[Bool.not_false,cond_true,e,bs]
      rw[w64 (by omega) (by omega)]
     ·exact⟨(l,lm),rfl,Rg.refl _ _ _,by dsimp only;omega,by dsimp only;omega,by dsimp only;omega⟩
    rintro⟨l1,lm1⟩ ⟨hr1,k1,k2,k3⟩
    dsimp only at hr1 k1 k2 k3 ⊢
    have hl1:=hr1.len
    obtain⟨y,ey,c1,c2,c3⟩:=E1 l1 a b (by omega) (by omega) (by omega) (by omega) (by omega)
    rw[ey,bs]
    refine CE (λq:LI×Int×Int=>Rg a b l q.1∧a≤q.2.1∧q.2.1<b) ?_ ?_
    ·cases (y.2.1==2)
     ·exact⟨_,rfl,by dsimp only;rw[c1];exact hr1,c2,c3⟩
     ·obtain⟨l2,e2,r2⟩:=ER l1 a b (by omega) (by omega) (by omega) (by omega)
      rw[c1]
      simp only[cond_true,e2,bs]
      rw[w64 (show-9223372036854775808≤b-1 by omega) (by omega),w64 (show-9223372036854775808≤y.1-a by omega) (by omega),w64 (show-9223372036854775808≤b-1-(y.1-a) by omega) (by omega)]
      exact⟨_,rfl,hr1.trans r2,by dsimp only;omega,by dsimp only;omega⟩
    rintro⟨l2,p,hint⟩ ⟨hr2,p1,p2⟩
    dsimp only at hr2 p1 p2 ⊢
    have hl2:=hr2.len
    refine CE (λq:LI ⊕ LI=>match q with| .inl q=>q=l2| .inr q=>q=l2∧Srt l2 a b) ?_ ?_
    ·cases ((bal&&par)&&(hint==1))
     ·exact⟨.inl l2,rfl,rfl⟩
     ·obtain⟨y2,e2,d1,d2⟩:=D2 l2 a b (by omega) (by omega) (by omega) (by omega) (by omega)
      simp only[cond_true,e2,bs,d1]
      cases hy:y2.1
      ·exact⟨.inl l2,rfl,rfl⟩
      ·exact⟨.inr l2,rfl,rfl,d2 hy⟩
    rintro(q|q) hq
    case inr=>
     obtain⟨rfl,hq⟩:=hq
     exact⟨.inr q,rfl,fin q hr2 hq⟩
    dsimp only at hq ⊢
    subst hq
    have hO2:=hO.keep hr2 h1 g1 g3
    have g7':0<a→∀k,a≤k→k<b→at' q (a-1)≤at' q k:=λha k m1 m2=>by
     rw[hr2.out (a-1) (by omega) (.inl (by omega))]
     exact hr2.all (λx=>at' l (a-1)≤x) (g7 ha) k m1 m2
    refine CE (λc:Bool=>c=true→0<a∧at' q p≤at' q (a-1)) ?_ ?_
    ·by_cases ha:0<a
     ·have r1:idx q (a-1)=some (at' q (a-1)):=Bl (by omega) (by omega)
      have r2:idx q p=some (at' q p):=Bl (by omega) (by omega)
      rw[w64 (show-9223372036854775808≤a-1 by omega) (by omega)]
      simp only[ha,decide_true,cond_true,r1,r2,B8,bs]
      exact⟨_,rfl,λh=>⟨by trivial,by simpa using h⟩⟩
     ·simp only[ha,decide_false,cond_false]
      exact⟨_,rfl,λh=>by cases h⟩
    intro c hc
    cases c
    ·
     simp only[cond_false]
     obtain⟨⟨mid,par',l3⟩,e3,P⟩:=partition_spec q a b p (by omega) (by omega) (by omega) p1 p2
     rw[e3,bs]
     obtain⟨hr3,m1,m2,m3,m4⟩:=P
     dsimp only at hr3 m1 m2 m3 m4 ⊢
     have hl3:=hr3.len
     have hO3:=hO2.keep hr3 h1 g1 g3
     have g7'':0<a→∀k,a≤k→k<b→at' l3 (a-1)≤at' l3 k:=λha k n1 n2=>by
      rw[hr3.out (a-1) (by omega) (.inl (by omega))]
      exact hr3.all (λx=>at' q (a-1)≤x) (g7' ha) k n1 n2
     have hR3:Rg a0 b0 l0 l3:=hR.trans ((hr2.trans hr3).widen g1 g3 h1)
     rw[w64 (show-9223372036854775808≤mid-a by omega) (by omega),w64 (show-9223372036854775808≤b-mid by omega) (by omega),w64 (show-9223372036854775808≤mid+1 by omega) (by omega)]
     by_cases hside:mid-a<b-mid
     ·simp only[hside,decide_true,cond_true]
      obtain⟨l4,e4,r4,s4⟩:=ih l3 a mid lm1 (by omega) m1 (by omega) (by omega) (by omega) (by omega) k2 k3 (λha k n1 n2=>g7'' ha k n1 (by omega)) (by omega)
      rw[e4,bs]
      have hl4:=r4.len
      have em:∀k,mid≤k→at' l4 k=at' l3 k:=λk hk=>r4.out k (by omega) (.inr hk)
      have lf:∀k,a≤k→k<mid→at' l4 k≤at' l4 mid:=λk n1 n2=>by
       rw[em mid (Int.le_refl _)];exact r4.all (λx=>x≤at' l3 mid) m3 k n1 n2
      refine⟨.inl _,rfl,⟨hR3.trans (r4.widen g1 (by omega) h1),?_,by dsimp only;omega,by dsimp only;omega,g3,by dsimp only;omega,k2,k3,?_⟩,by dsimp only;omega⟩
      ·have hO4:=hO3.keep (r4.widen (Int.le_refl a) (by omega) (by omega)) h1 g1 g3
       intro i j n1 n2 n3 n4
       dsimp only at n4 ⊢
       by_cases hin:a≤i∧j<b
       ·by_cases hj:j<mid
        ·exact s4 i j hin.1 n2 hj
        ·have hi:i≤mid:=by omega
         have e1:at' l4 i≤at' l4 mid:=by
          by_cases e:i=mid
          ·rw[e];exact Int.le_refl _
          ·exact lf i hin.1 (by omega)
         have e2:at' l4 mid≤at' l4 j:=by
          by_cases e:j=mid
          ·rw[e];exact Int.le_refl _
          ·rw[em mid (Int.le_refl _),em j (by omega)];exact m4 j (by omega) hin.2
         omega
       ·exact hO4 i j n1 n2 n3 hin
      ·intro _ k n1 n2
       dsimp only at n1 n2 ⊢
       rw[show mid+1-1=mid by omega,em mid (Int.le_refl _),em k (by omega)]
       exact m4 k (by omega) n2
     ·simp only[hside,decide_false,cond_false]
      obtain⟨l4,e4,r4,s4⟩:=ih l3 (mid+1) b lm1 (by omega) (by omega) (by omega) (by omega) (by omega) (by omega) k2 k3 (λ_ k n1 n2=>by rw[show mid+1-1=mid by omega];exact m4 k (by omega) n2) (by omega)
      rw[e4,bs]
      have hl4:=r4.len
      have em:∀k,0≤k→k≤mid→at' l4 k=at' l3 k:=λk h0 hk=>r4.out k h0 (.inl (by omega))
      have rt:∀k,mid<k→k<b→at' l4 mid≤at' l4 k:=λk n1 n2=>by
       rw[em mid (by omega) (Int.le_refl _)];exact r4.all (λx=>at' l3 mid≤x) (λk q1 q2=>m4 k (by omega) q2) k (by omega) n2
      refine⟨.inl _,rfl,⟨hR3.trans (r4.widen (by omega) g3 h1),?_,g1,m1,by dsimp only;omega,by dsimp only;omega,k2,k3,?_⟩,by dsimp only;omega⟩
      ·have hO4:=hO3.keep (r4.widen (by omega) (Int.le_refl b) (by omega)) h1 g1 g3
       intro i j n1 n2 n3 n4
       dsimp only at n4 ⊢
       by_cases hin:a≤i∧j<b
       ·by_cases hi:mid<i
        ·exact s4 i j (by omega) n2 hin.2
        ·have hj:mid≤j:=by omega
         have e1:at' l4 i≤at' l4 mid:=by
          by_cases e:i=mid
          ·rw[e];exact Int.le_refl _
          ·rw[em i (by omega) (by omega),em mid (by omega) (Int.le_refl _)];exact m3 i hin.1 (by omega)
         have e2:at' l4 mid≤at' l4 j:=by
          by_cases e:j=mid
          ·rw[e];exact Int.le_refl _
          ·exact rt j (by omega) hin.2
         omega
       ·exact hO4 i j n1 n2 n3 hin
      ·intro ha k n1 n2
       dsimp only at ha n1 n2 ⊢
       rw[em (a-1) (by omega) (by omega),em k (by omega) (by omega)]
       exact g7'' ha k n1 (by omega)
    ·
     simp only[cond_true]
     obtain⟨hc1,hc2⟩:=hc rfl
     obtain⟨⟨mid,l3⟩,e3,hr3,m1,m2,m3,m4⟩:=Eu q a b p (by omega) (by omega) (by omega) p1 p2
     rw[e3,bs]
     dsimp only at hr3 m1 m2 m3 m4 ⊢
     have hl3:=hr3.len
     have hO3:=hO2.keep hr3 h1 g1 g3
     have lw:∀k,a≤k→k<b→at' q p≤at' l3 k:=λk n1 n2=>
      hr3.all (λx=>at' q p≤x) (λk q1 q2=>Int.le_trans hc2 (g7' hc1 k q1 q2)) k n1 n2
     refine⟨.inl _,rfl,⟨hR.trans ((hr2.trans hr3).widen g1 g3 h1),?_,by dsimp only;omega,m2,g3,by dsimp only;omega,k2,k3,?_⟩,by dsimp only;omega⟩
     ·intro i j n1 n2 n3 n4
      dsimp only at n4 ⊢
      by_cases hin:a≤i∧j<b
      ·have:=m3 i hin.1 (by omega)
       have:=lw j (by omega) hin.2
       omega
      ·exact hO3 i j n1 n2 n3 hin
     ·intro _ k n1 n2
      dsimp only at n1 n2 ⊢
      have:=m3 (mid-1) (by omega) (by omega)
      have:=m4 k n1 n2
      omega
  ·exact⟨Rg.refl _ _ _,λi j n1 n2 n3 n4=>by dsimp only at n4;omega,Int.le_refl _,h2,Int.le_refl _,h6,h7,h8,h9⟩
  ·rintro r hr
   exact⟨r,rfl,hr⟩
theorem sorted_spec (l:LI)(hl:l.length≤16):∃y,D.u0 l=some y∧List.Perm y l∧Srt y 0 y.length:=by
 unfold D.u0 D.U0 D.V0 D.O0 D.l D.N
 rw[if_pos (show l.length≤1000000 by omega)]
 simp only[bs]
 rw[wu64 (by omega) (by omega),if_pos (by omega)]
 simp only[bs]
 have hk:∀k:Nat,k≤16→k≤12+Lib.bitLen k∧Lib.bitLen k≤64:=by decide
 obtain⟨k1,k2⟩:=hk l.length hl
 have e:((l.length:Int)).toNat=l.length:=by omega
 have hb:=EV
 obtain⟨y,hy,hr,hs⟩:=pdqsort_spec CA l 0 l.length (Lib.bitLen l.length:Nat) (by omega) (by omega) (by omega) (by omega) (by omega) (by omega) (by omega) (by omega) (λh=>absurd h (by omega)) (by omega)
 rw[e,hy]
 refine⟨y,rfl,hr.perm,?_⟩
 rw[hr.len];exact hs
end Go.Sx



namespace Go.Sx
def Sh {α:Type}(xs:List α):Prop:=xs.length≤4294967296
theorem DD (a b c:Int):D.e a b c=some (decide (b≤a)&&decide (a≤c)):=rfl
theorem inRange_eq (a b c:Int):D.M a b c=some (decide (b≤a)&&decide (a≤c)):=rfl
theorem any_beq (xs:LI)(n:Int):xs.any (λx=>x==n)=decide (n∈xs):=by
 rw[Bool.eq_iff_iff,List.any_eq_true];simp
theorem CG (xs:LI)(n:Int)(h:Sh xs):D.f xs n=some (decide (n∈xs)):=by
 unfold Sh at h
 unfold D.f
 refine(loop_anyb xs.length (λi=>xs.getD i 0==n) true (λi hi=> ?_) ?_ rfl rfl).trans ?_
 ·simp only[dlt hi,cond_true,Az hi,bs,wi' hi (by omega),AA hi]
  cases xs[i]==n<;>rfl
 ·simp only[Bm,cond_false]
 ·rw[D8 xs (λx=>x==n) _ (λi hi=>by rw[AA hi]),any_beq]
theorem Dl (xs:LI)(n:Int)(h:Sh xs):D.q xs n=some (decide (n∈xs)):=by
 unfold Sh at h
 unfold D.q D.Y0
 have e:Ar (σ:=Int) (ρ:=(Unit) ⊕ (Int)) (fun(x_26:Int)=>cond (decide (x_26<(xs.length:Int))) ((idx xs x_26).bind λe_39=>cond (n==e_39) (some (.inr (.inr x_26))) (some (.inl (IntKind.i64.wrap (x_26+1))))) (some (.inr (.inl ())))) 0=
   some (((List.range xs.length).findSome? (λi=>if xs.getD i 0==n then some (Sum.inr (i:Int)) else none)).getD (.inl ())):=by
  refine DP xs.length _ _ (λi hi=> ?_) ?_
  ·simp only[dlt hi,cond_true,Az hi,bs,wi' hi (by omega),AA hi]
   rw[show (n==xs[i])=(xs[i]==n) from Bool.beq_comm ..]
   cases xs[i]==n<;>rfl
  ·simp only[Bm,cond_false]
 rw[e,bs]
 cases hf:(List.range xs.length).findSome? (λi=>if xs.getD i 0==n then some (Sum.inr (i:Int):Unit ⊕ Int) else none) with
 |none=>
  have:n∉xs:=λhm=>by
   obtain⟨i,hi,e⟩:=List.getElem_of_mem hm
   have:=(List.findSome?_eq_none_iff.1 hf) i (List.mem_range.2 hi)
   rw[AA hi,e] at this
   simp at this
  simp[this]
 |some r=>
  obtain⟨i,hi,hr⟩:=List.exists_of_findSome?_eq_some hf
  have hi':=List.mem_range.1 hi
  rw[AA hi'] at hr
  split at hr
  ·rename_i hc
   cases hr
   have:n∈xs:=by rw[←(beq_iff_eq.1 hc)];exact List.getElem_mem _
   simp[this]
  ·cases hr
def SetOf (xs:LI)(n:Int):Prop:=Inc xs∧∀x∈xs,0≤x∧x<n
theorem SetOf.len :∀{xs:LI} {n a:Int},Inc xs→(∀x∈xs,a≤x∧x<n)→xs=[]∨(xs.length:Int)≤n-a
 |[],_,_,_,_=> .inl rfl
 |x::xs,n,a,h,hr=>by
  right
  have h':=List.pairwise_cons.1 h
  have hx:=hr x (by simp)
  rcases SetOf.len (a:=x+1) (n:=n) h'.2 (λy hy=>⟨by have:=h'.1 y hy;omega,(hr y (by simp[hy])).2⟩) with e|e
  ·subst e;simp;omega
  ·simp;omega
theorem SetOf.length_le {xs:LI}{n:Int}(h:SetOf xs n)(hn:0≤n):(xs.length:Int)≤n:=by
 rcases SetOf.len h.1 h.2 with e|e
 ·subst e;simpa using hn
 ·omega
theorem inc_iff (xs:LI):Inc xs↔∀i (hi:i+1<xs.length),xs[i]<xs[i+1]:=by
 unfold Inc
 constructor
 ·intro h i hi
  exact List.pairwise_iff_getElem.1 h i (i+1) (by omega) hi (by omega)
 ·intro h
  rw[List.pairwise_iff_getElem]
  intro i j hi hj hij
  have key:∀k,∀hk:i+k+1<xs.length,xs[i]<xs[i+k+1]:=by
   intro k
   induction k with
   |zero=>intro hk;exact h i hk
   |succ k ih=>intro hk;have:=ih (by omega);have:=h (i+k+1) hk;exact Int.lt_trans (ih (by omega)) this
  obtain⟨k,rfl⟩:∃k,j=i+k+1:=⟨j-i-1,by omega⟩
  exact key k hj
def Db (xs:LI)(n:Int):Bool:=(List.range xs.length).all λi=>(decide (0≤xs.getD i 0)&&decide (xs.getD i 0≤n-1))&& !(decide (0<i)&&decide (xs.getD i 0≤xs.getD (i-1) 0))
theorem CY (xs:LI)(n:Int):Db xs n=true↔SetOf xs n:=by
 unfold Db SetOf
 rw[C7,inc_iff]
 constructor
 ·intro h
  refine⟨λi hi=> ?_,λx hx=> ?_⟩
  ·have:=h (i+1) hi
   simp[hi,show i<xs.length by omega] at this
   omega
  ·obtain⟨i,hi,rfl⟩:=List.getElem_of_mem hx
   have:=h i hi
   simp[hi] at this
   omega
 ·rintro⟨h1,h2⟩ i hi
  have h3:=h2 _ (List.getElem_mem hi)
  simp[hi]
  refine⟨by omega,?_⟩
  rcases Nat.eq_zero_or_pos i with h0|h0
  ·exact .inl h0
  ·right
   have:=h1 (i-1) (by omega)
   have e:i-1+1=i:=by omega
   simp only[e] at this
   have e2:xs[i-1]?.getD 0=xs[i-1]:=by rw[List.getElem?_eq_getElem (by omega)];rfl
   rw[e2];exact this
theorem Er (xs:LI)(n:Int)(h:Sh xs)(h0:0≤n)(hn:n≤4294967296):D.K xs n=some (Db xs n):=by
 unfold Sh at h
 unfold D.K
 refine C3 xs.length _ false (λi hi=> ?_) ?_ rfl rfl
 ·simp only[dlt hi,cond_true,Az hi,bs,wi' hi (by omega),AA hi,inRange_eq]
  rw[w64 (x:=n-1) (by omega) (by omega)]
  cases (decide (0≤xs[i])&&decide (xs[i]≤n-1))
  ·simp
  ·by_cases h0:0<i
   ·have e1:IntKind.i64.wrap ((i:Int)-1)=((i-1:Nat):Int):=by rw[w64 (by omega) (by omega)];omega
    have hd:decide ((0:Int)<(i:Int))=true:=by simp;omega
    simp only[Bool.not_true,cond_false,hd,cond_true,e1,Az (show i-1<xs.length by omega),bs,AA (show i-1<xs.length by omega),h0,decide_true,Bool.true_and]
    cases decide (xs[i]≤xs[i-1])<;>rfl
   ·have hd:decide ((0:Int)<(i:Int))=false:=by simp;omega
    simp only[Bool.not_true,cond_false,hd,bs,h0,decide_false,Bool.false_and,Bool.not_false,Bool.and_true,if_true]
 ·simp only[Bm,cond_false]
theorem l1Set_eq (xs:LI)(n:Int)(h:Sh xs)(h0:0≤n)(hn:n≤4294967296):D.s xs n=some (Db xs n):=by
 have hh:=h
 unfold Sh at h
 unfold D.s
 by_cases hl:n<xs.length
 ·have:Db xs n=false:=by
   cases hb:Db xs n
   ·rfl
   ·have:=((CY xs n).1 hb).length_le h0;omega
  simp[hl,this]
 ·simp only[hl,decide_false,cond_false]
  refine C3 xs.length _ false (λi hi=> ?_) ?_ rfl rfl
  ·simp only[dlt hi,cond_true,Az hi,bs,wi' hi (by omega),AA hi,DD]
   rw[w64 (x:=n-1) (by omega) (by omega)]
   cases (decide (0≤xs[i])&&decide (xs[i]≤n-1))
   ·simp
   ·by_cases h0:0<i
    ·have e1:IntKind.i64.wrap ((i:Int)-1)=((i-1:Nat):Int):=by rw[w64 (by omega) (by omega)];omega
     have hd:decide ((0:Int)<(i:Int))=true:=by simp;omega
     simp only[Bool.not_true,cond_false,hd,cond_true,e1,Az (show i-1<xs.length by omega),bs,AA (show i-1<xs.length by omega),h0,decide_true,Bool.true_and]
     cases decide (xs[i]≤xs[i-1])<;>rfl
    ·have hd:decide ((0:Int)<(i:Int))=false:=by simp;omega
     simp only[Bool.not_true,cond_false,hd,bs,h0,decide_false,Bool.false_and,Bool.not_false,Bool.and_true,if_true]
  ·simp only[Bm,cond_false]
def row (g:LL)(v:Nat):LI:=g.getD v []
theorem row_eq {g:LL}{v:Nat}(h:v<g.length):row g v=g[v]:=AA h _
def adj (g:LL)(u v:Nat):Prop:=(v:Int)∈row g u
structure GOk (g:LL):Prop where
 n1:1≤g.length
 n16:g.length≤16
 rows:∀v,v<g.length→SetOf (row g v) g.length
 irr:∀v,v<g.length→¬adj g v v
 sym:∀u v,u<g.length→adj g u v→adj g v u
theorem GOk.mem {g:LL}(h:GOk g){u:Nat}(hu:u<g.length){x:Int}(hx:x∈row g u):∃v:Nat,x=v∧v<g.length∧adj g u v:=by
 have:=(h.rows u hu).2 x hx
 refine⟨x.toNat,by omega,by omega,?_⟩
 unfold adj
 rw[show ((x.toNat:Nat):Int)=x by omega];exact hx
theorem GOk.row_len {g:LL}(h:GOk g){u:Nat}(hu:u<g.length):(row g u).length≤16:=by
 have:=(h.rows u hu).length_le (by omega)
 have:=h.n16
 omega
theorem GOk.lt {g:LL}(h:GOk g){u v:Nat}(hu:u<g.length)(ha:adj g u v):v<g.length:=by
 obtain⟨w,h1,h2,_⟩:=h.mem hu ha
 omega
def Sh2 (g:LL):Prop:=Sh g∧∀r∈g,Sh r
theorem Sh2.row {g:LL}(h:Sh2 g){v:Nat}(hv:v<g.length):Sh (row g v):=by
 rw[row_eq hv];exact h.2 _ (List.getElem_mem hv)
theorem BY {g:LL}{v:Nat}(h:v<g.length):idx g (v:Int)=some (row g v):=by rw[row_eq h,Az h]
def gB1 (g:LL):Bool:=(List.range g.length).all λv=>Db (row g v) g.length&& !decide ((v:Int)∈row g v)
def gB2 (g:LL):Bool:=(List.range g.length).all λv=>(row g v).all λx=>decide ((v:Int)∈row g x.toNat)
def gB (g:LL):Bool:=decide (1≤g.length)&&decide (g.length≤16)&&gB1 g&&gB2 g
theorem gB_iff (g:LL):gB g=true↔GOk g:=by
 unfold gB gB1 gB2
 simp only[Bool.and_eq_true,decide_eq_true_eq,CY,Bool.not_eq_true',decide_eq_false_iff_not,List.all_eq_true,List.mem_range]
 constructor
 ·rintro⟨⟨⟨h1,h2⟩,h3⟩,h4⟩
  refine⟨h1,h2,λv hv=>(h3 v hv).1,λv hv=>(h3 v hv).2,λu v hu ha=> ?_⟩
  have:=h4 u hu v ha
  unfold adj
  simpa using this
 ·intro h
  refine⟨⟨⟨h.n1,h.n16⟩,λv hv=>⟨h.rows v hv,h.irr v hv⟩⟩,λv hv x hx=> ?_⟩
  obtain⟨u,rfl,hu,ha⟩:=h.mem hv hx
  have:=h.sym v u hv ha
  simpa [adj] using this
theorem Ca (g:LL)(h:Sh2 g):D.j g=some (gB g):=by
 have hl:g.length≤4294967296:=h.1
 unfold D.j D.c
 simp only[bs,DD]
 by_cases hn:1≤g.length∧g.length≤16
 ·have e:(decide ((1:Int)≤(g.length:Int))&&decide ((g.length:Int)≤16))=true:=by simp;omega
  simp only[e,Bool.not_true,cond_false]
  refine(EM g.length (λv=>Db (row g v) g.length&& !decide ((v:Int)∈row g v)) (.inl ()) (.inr false) (λv hv=> ?_) ?_).trans ?_
  rotate_left
  ·simp only[Bm,cond_false]
  ·show cond (gB1 g) _ _=_
   have e4:gB g=(gB1 g&&gB2 g):=by unfold gB;simp[hn.1,hn.2]
   rw[e4]
   cases hc:gB1 g with
   |false=>rfl
   |true=>
    rw[cond_true,Bool.true_and]
    refine C3 g.length _ false (λv hv=> ?_) ?_ rfl rfl
    ·have hset:SetOf (row g v) g.length:=by
      have:=(C7 _ _).1 hc v hv
      simp only[Bool.and_eq_true] at this
      exact(CY _ _).1 this.1
     simp only[dlt hv,cond_true]
     refine(EM (row g v).length (λi=>decide ((v:Int)∈row g ((row g v).getD i 0).toNat)) (.inl ()) (.inr false) (λi hi=> ?_) ?_).trans ?_
     ·have hx:=hset.2 _ (List.getElem_mem hi)
      have e5:idx g (row g v)[i]=some (row g ((row g v)[i]).toNat):=by
       have:=BY (g:=g) (v:=((row g v)[i]).toNat) (by omega)
       rwa [show ((((row g v)[i]).toNat:Nat):Int)=(row g v)[i] by omega] at this
      have hs:=h.row (v:=((row g v)[i]).toNat) (by omega)
      simp only[BY hv,bs,dlt hi,cond_true,Az hi,e5,CG _ _ hs,wi (show i<4611686018427387904 by have:=h.row hv;unfold Sh at this;omega),AA hi]
      cases decide ((v:Int)∈row g ((row g v)[i]).toNat)<;>rfl
     ·simp only[BY hv,bs,Bm,cond_false]
     ·rw[D7 (row g v) (λx=>decide ((v:Int)∈row g x.toNat)) _ (λi hi=>by rw[AA hi]),wi' hv (by omega)]
      cases (row g v).all λx=>decide ((v:Int)∈row g x.toNat)<;>rfl
    ·simp only[Bm,cond_false]
  ·simp only[dlt hv,cond_true,BY hv,bs,l1Set_eq _ _ (h.row hv) (show (0:Int)≤(g.length:Int) by omega) (by omega),CG _ _ (h.row hv),wi' hv (by omega)]
   cases Db (row g v) g.length
   ·rfl
   ·cases decide ((v:Int)∈row g v)<;>rfl
 ·have e:(decide ((1:Int)≤(g.length:Int))&&decide ((g.length:Int)≤16))=false:=by
   rw[Bool.eq_false_iff];simp;omega
  simp only[e,Bool.not_false,cond_true]
  unfold gB
  congr 1
  symm
  rw[Bool.eq_false_iff]
  simp
  omega
theorem BV (g:LL)(h:Sh2 g):D.i g=some (gB g):=by
 have hl:g.length≤4294967296:=h.1
 unfold D.i
 by_cases hn:1≤g.length∧g.length≤16
 ·have e:(decide ((g.length:Int)<(1:Int))||decide ((16:Int)<(g.length:Int)))=false:=by simp;omega
  simp only[e,cond_false]
  refine(EM g.length (λv=>Db (row g v) g.length&& !decide ((v:Int)∈row g v)) (.inl ()) (.inr false) (λv hv=> ?_) ?_).trans ?_
  rotate_left
  ·simp only[Bm,cond_false]
  ·show cond (gB1 g) _ _=_
   have e4:gB g=(gB1 g&&gB2 g):=by unfold gB;simp[hn.1,hn.2]
   rw[e4]
   cases hc:gB1 g with
   |false=>rfl
   |true=>
    rw[cond_true,Bool.true_and]
    refine C3 g.length _ false (λv hv=> ?_) ?_ rfl rfl
    ·have hset:SetOf (row g v) g.length:=by
      have:=(C7 _ _).1 hc v hv
      simp only[Bool.and_eq_true] at this
      exact(CY _ _).1 this.1
     simp only[dlt hv,cond_true,BY hv,bs]
     refine(EM (row g v).length (λi=>decide ((v:Int)∈row g ((row g v).getD i 0).toNat)) (.inl ()) (.inr false) (λi hi=> ?_) ?_).trans ?_
     ·have hx:=hset.2 _ (List.getElem_mem hi)
      have e5:idx g (row g v)[i]=some (row g ((row g v)[i]).toNat):=by
       have:=BY (g:=g) (v:=((row g v)[i]).toNat) (by omega)
       rwa [show ((((row g v)[i]).toNat:Nat):Int)=(row g v)[i] by omega] at this
      have hs:=h.row (v:=((row g v)[i]).toNat) (by omega)
      simp only[bs,dlt hi,cond_true,Az hi,e5,Dl _ _ hs,wi (show i<4611686018427387904 by have:=h.row hv;unfold Sh at this;omega),AA hi]
      cases decide ((v:Int)∈row g ((row g v)[i]).toNat)<;>rfl
     ·simp only[Bm,cond_false]
     ·rw[D7 (row g v) (λx=>decide ((v:Int)∈row g x.toNat)) _ (λi hi=>by rw[AA hi]),wi' hv (by omega)]
      cases (row g v).all λx=>decide ((v:Int)∈row g x.toNat)<;>rfl
    ·simp only[Bm,cond_false]
  ·simp only[dlt hv,cond_true,BY hv,bs,Er _ _ (h.row hv) (show (0:Int)≤(g.length:Int) by omega) (by omega),Dl _ _ (h.row hv),wi' hv (by omega)]
   cases Db (row g v) g.length
   ·rfl
   ·cases decide ((v:Int)∈row g v)<;>rfl
 ·have e:(decide ((g.length:Int)<(1:Int))||decide ((16:Int)<(g.length:Int)))=true:=by
   simp;omega
  simp only[e,cond_true]
  unfold gB
  congr 1
  symm
  rw[Bool.eq_false_iff]
  simp
  omega
structure OOk (g:LL)(o:LI):Prop where
 len:o.length=g.length
 rng:∀x∈o,0≤x∧x<g.length
 nd:o.Nodup
def oB (g:LL)(o:LI):Bool:=(List.range o.length).all λi=>(decide (0≤o.getD i 0)&&decide (o.getD i 0≤(g.length:Int)-1))&& !decide (o.getD i 0∈o.take i)
theorem mem_take_iff {α:Type}{l:List α}{i:Nat}{x:α}:x∈l.take i↔∃j,∃h:j<l.length,j<i∧l[j]=x:=by
 rw[List.mem_take_iff_getElem]
 constructor
 ·rintro⟨j,h,e⟩;exact⟨j,by omega,by omega,e⟩
 ·rintro⟨j,h,h2,e⟩;exact⟨j,by omega,e⟩
theorem nodup_iff {l:LI}:l.Nodup↔∀i (hi:i<l.length),l[i]∉l.take i:=by
 constructor
 ·intro h i hi hm
  obtain⟨j,hj,hji,e⟩:=mem_take_iff.1 hm
  have:=(List.pairwise_iff_getElem.1 h) j i hj hi hji
  exact this e
 ·intro h
  refine List.pairwise_iff_getElem.2 (λi j hi hj hij e=>h j hj (mem_take_iff.2 ⟨i,hi,hij,e⟩))
theorem oB_iff (g:LL)(o:LI)(hl:o.length=g.length):oB g o=true↔OOk g o:=by
 unfold oB
 rw[C7]
 constructor
 ·intro h
  refine⟨hl,λx hx=> ?_,nodup_iff.2 λi hi=> ?_⟩
  ·obtain⟨i,hi,rfl⟩:=List.getElem_of_mem hx
   have:=h i hi
   rw[AA hi] at this
   simp at this;omega
  ·have:=h i hi
   rw[AA hi] at this
   simp at this;exact this.2
 ·intro h i hi
  have h1:=h.rng _ (List.getElem_mem hi)
  have h2:=nodup_iff.1 h.nd i hi
  rw[AA hi]
  simp[h2];omega
def ordB (g:LL)(o:LI):Bool:=decide (o.length=g.length)&&oB g o
theorem ordB_iff (g:LL)(o:LI):ordB g o=true↔OOk g o:=by
 unfold ordB
 by_cases hl:o.length=g.length
 ·simp[hl,oB_iff g o hl]
 ·simp[hl];intro h;exact hl h.len
theorem DU (g:LL)(o:LI)(h:Sh2 g)(ho:Sh o):D.y g o=some (gB g&&ordB g o):=by
 have hl:g.length≤4294967296:=h.1
 have hol:o.length≤4294967296:=ho
 unfold D.y
 rw[Ca g h,bs]
 cases hg:gB g
 ·rfl
 ·have hg':=(gB_iff g).1 hg
  simp only[cond_true]
  unfold D.W0 D.c ordB
  simp only[bs]
  by_cases hl:o.length=g.length
  ·have e:((o.length:Int) !=(g.length:Int))=false:=by simp[hl]
   simp only[e,cond_false]
   simp only[Option.bind_fun_some,hl,decide_true,Bool.true_and]
   unfold oB
   rw[←hl]
   refine C3 o.length _ false (λi hi=> ?_) ?_ rfl rfl
   ·have hsh:Sh (o.take i):=by unfold Sh;rw[List.length_take];omega
    simp only[dlt hi,cond_true,Az hi,bs,wi' hi (by omega),AA hi,←hl,D.o,D.c,DD,Dt (show i≤o.length by omega),CG _ _ hsh]
    rw[w64 (x:=(o.length:Int)-1) (by omega) (by omega)]
    cases (decide (0≤o[i])&&decide (o[i]≤(o.length:Int)-1))
    ·rfl
    ·cases decide (o[i]∈o.take i)<;>rfl
   ·simp only[Bm,cond_false]
  ·have e:((o.length:Int) !=(g.length:Int))=true:=by simp;omega
   simp[e,hl]
theorem sorted_inc {y:LI}(hs:Srt y 0 y.length)(hn:y.Nodup):Inc y:=by
 unfold Inc
 rw[List.pairwise_iff_getElem]
 intro i j hi hj hij
 have h1:=hs i j (by omega) (by omega) (by omega)
 have h2:=(List.pairwise_iff_getElem.1 hn) i j hi hj hij
 simp[at',hi,hj] at h1
 have:y[i]≠y[j]:=h2
 omega
theorem E2 (g:LL)(o:LI)(h:Sh2 g)(ho:Sh o):D.L g o=some (gB g&&ordB g o):=by
 unfold D.L
 rw[BV g h,bs]
 cases hg:gB g
 ·rfl
 ·have hg':=(gB_iff g).1 hg
  by_cases hl:o.length=g.length
  ·have e:((o.length:Int) !=(g.length:Int))=false:=by simp[hl]
   have h16:=hg'.n16
   obtain⟨y,h1,h2,h3⟩:=sorted_spec o (by omega)
   have hyl:=h2.length_eq
   simp only[Bool.not_true,e,Bool.or_false,cond_false,h1,bs,Bool.true_and]
   rw[Er y _ (by unfold Sh;omega) (by omega) (by omega),bs]
   congr 1
   unfold ordB
   simp only[hl,decide_true,Bool.true_and]
   rw[Bool.eq_iff_iff,CY,oB_iff g o hl]
   constructor
   ·rintro⟨k1,k2⟩
    refine⟨hl,λx hx=>k2 x (h2.mem_iff.2 hx),h2.nodup_iff.1 ?_⟩
    exact List.Pairwise.imp (λh e=>by omega) k1
   ·intro k
    exact⟨sorted_inc h3 (h2.nodup_iff.2 k.nd),λx hx=>k.rng x (h2.mem_iff.1 hx)⟩
  ·have e:((o.length:Int) !=(g.length:Int))=true:=by simp;omega
   simp[e,ordB,hl]
theorem BT (v:Nat):D.b (v:Int)=some (ishl .u32 1 (v:Int)):=by
 unfold D.b
 have:decide ((v:Int)<0)=false:=by simp
 rw[this];rfl
theorem impl_one_eq' {x:Int}(h:0≤x):D.b x=some (ishl .u32 1 x):=by
 have:=BT x.toNat
 rwa [show ((x.toNat:Nat):Int)=x by omega] at this
def mk (xs:LI):Int:=xs.foldl (λs v=>ior .u32 s (ishl .u32 1 v)) 0
theorem maskOf_eq (xs:LI)(h:Sh xs)(h0:∀x∈xs,0≤x):D.M0 xs=some (mk xs):=by
 unfold Sh at h
 unfold D.M0
 refine(loop_listb xs (λs i=>(s,i)) (λs v=>ior .u32 s (ishl .u32 1 v)) (λs=>s) (λ_=>True) 0 trivial (λs i hi _=>⟨?_,trivial⟩) (λs _=> ?_)).trans rfl
 ·simp only[dlt hi,cond_true,Az hi,bs,wi' hi (by omega),impl_one_eq' (h0 _ (List.getElem_mem hi))]
 ·simp only[Bm,cond_false]
theorem Ew :∀(xs:LI) (s:Int),VS s→VS (xs.foldl (λs v=>ior .u32 s (ishl .u32 1 v)) s)
 |[],s,h=>h
 |x::xs,s,_=>Ew xs _ (VS.ior _ _)
theorem VS.mk (xs:LI):VS (mk xs):=Ew xs 0 VS.zero
theorem Ep (u:Nat):∀(xs:LI) (s:Int),VS s→(∀x∈xs,0≤x∧x<32)→has (xs.foldl (λs v=>ior .u32 s (ishl .u32 1 v)) s) u=(has s u||decide ((u:Int)∈xs))
 |[],s,_,_=>by simp
 |x::xs,s,hs,h=>by
  have hx:=h x (by simp)
  rw[List.foldl_cons,Ep u xs _ (VS.ior _ _) (λy hy=>h y (by simp[hy])),B9 hs (VS.ishl _ _)]
  obtain⟨k,rfl⟩:∃k:Nat,x=k:=⟨x.toNat,by omega⟩
  rw[Bx (by omega)]
  by_cases hu:u=k
  ·subst hu;simp
  ·have:¬(u:Int)=(k:Int):=by omega
   simp[hu,this]
theorem has_mk {xs:LI}(h:∀x∈xs,0≤x∧x<32)(u:Nat):has (mk xs) u=decide ((u:Int)∈xs):=by
 unfold mk;rw[Ep u xs 0 VS.zero h,BE,Bool.false_or]
theorem GOk.mem0 {g:LL}(hg:GOk g){r:LI}(hr:r∈g):r.length≤16∧∀x∈r,0≤x∧x<g.length:=by
 obtain⟨v,hv,rfl⟩:=List.getElem_of_mem hr
 rw[←row_eq hv]
 exact⟨hg.row_len hv,(hg.rows v hv).2⟩
theorem Dm (g:LL)(hg:GOk g):D.p g=some (g.map mk):=by
 have h16:=hg.n16
 unfold D.p
 refine(Em g (λs i=>(s,i)) mk (by omega) (λs i hi _=> ?_) (λs=> ?_)).trans rfl
 ·obtain⟨h1,h2⟩:=hg.mem0 (List.getElem_mem hi)
  simp only[dlt hi,cond_true,Az hi,bs,wi' hi (by omega),maskOf_eq g[i] (by unfold Sh;omega) (λx hx=>(h2 x hx).1)]
 ·simp only[Bm,cond_false]
theorem narrow_eq (xs:LI)(h:Sh xs):D.h1 xs=some xs:=by
 unfold Sh at h
 unfold D.h1
 rw[makeD_zero (by omega) (by omega),bs]
 refine(Em xs (λs i=>(s,i)) (λx=>x) h (λs i hi _=> ?_) (λs=> ?_)).trans (by simp)
 ·simp only[dlt hi,cond_true,Az hi,bs,wi' hi (by omega)]
 ·simp only[Bm,cond_false]
theorem wide_eq (xs:LI)(h:Sh xs):D.t xs=some xs:=by
 unfold Sh at h
 unfold D.t
 rw[makeD_zero (by omega) (by omega),bs]
 refine(Em xs (λs i=>(s,i)) (λx=>x) h (λs i hi _=> ?_) (λs=> ?_)).trans (by simp)
 ·simp only[dlt hi,cond_true,Az hi,bs,wi' hi (by omega)]
 ·simp only[Bm,cond_false]
theorem least_eq {s:Int}(h:VS s)(h0:s≠0):∃k:Nat,k<32∧D.u s=some (k:Int)∧has s k=true∧(∀v,v<k→has s v=false)∧
  (∀v,has (iand .u32 s (IntKind.u32.wrap (s-1))) v=(has s v&& !decide (v=k))):=by
 obtain⟨k,h1,h2,h3,h4,h5⟩:=least_spec h h0
 refine⟨k,h1,?_,h2,h3,h5⟩
 unfold D.u D.Q0
 have e:(s==0)=false:=by simpa using h0
 simp only[e,cond_false,h4,tz_table k h1,bs]
 rw[w64 (by omega) (by omega)]
theorem C1 (s:Int)(h:VS s):D.d s=some (Aq s):=by
 unfold D.d
 have key:∀(n:Nat) (x:Int) (l:LI),VS x→(Aq x).length=n→l.length+n≤32→
   Ar (σ:=Int×LI) (ρ:=(LI)) (fun(s_52:Int×LI)=>match s_52 with|(x_55,l_56)=>cond (x_55 !=0) ((D.u x_55).bind λy_88=>(AT l_56 ([y_88]:LI)).bind λl_99=>some (.inl ((iand .u32 x_55 (IntKind.u32.wrap (x_55-1))),l_99))) (some (.inr l_56))) (x,l)=some (l++Aq x):=by
  intro n
  induction n with
  |zero=>
   intro x l hx hn _
   have e:Aq x=[]:=List.eq_nil_of_length_eq_zero hn
   have e0:x=0:=hx.eq_zero.2 λv hv=>by
    cases hc:has x v
    ·rfl
    ·have:=mem_elems.2 ⟨v,hv,hc,rfl⟩;rw[e] at this;simp at this
   rw[e]
   refine Bt ?_
   have:(x !=0)=false:=by simp[e0]
   simp only[this,cond_false,List.append_nil]
  |succ n ih=>
   intro x l hx hn hl
   have h0:x≠0:=by rintro rfl;rw[elems_zero] at hn;simp at hn
   obtain⟨k,h1,h2,h3,h4,h5⟩:=least_eq hx h0
   have e:=ET h1 h3 h4 h5
   have en:(Aq (iand .u32 x (IntKind.u32.wrap (x-1)))).length=n:=by rw[e] at hn;simpa using hn
   have hstep:=ih (iand .u32 x (IntKind.u32.wrap (x-1))) (l++[(k:Int)]) (VS.iand _ _) en (by simp;omega)
   have e1:(x !=0)=true:=by simpa using h0
   rw[B4 (s':=(iand .u32 x (IntKind.u32.wrap (x-1)),l++[(k:Int)]))]
   ·rw[hstep,e];simp
   ·simp only[e1,cond_true,h2,bs,Bk (xs:=l) (ys:=[(k:Int)]) (by simp;omega)]
 have:=key (Aq s).length s [] h rfl (by simpa using Cd s)
 rw[this];simp
theorem elems_sh (s:Int):Sh (Aq s):=by have:=Cd s;unfold Sh;omega
theorem numbers_eq (s:Int)(h:VS s):D.S s=some (Aq s):=by
 unfold D.S
 rw[C1 s h,bs,wide_eq _ (elems_sh s)];rfl
theorem l1Copy_eq (xs:LI)(h:Sh xs):D.R xs=some xs:=by
 unfold Sh at h
 unfold D.R
 rw[Bk (by simpa using h)];rfl
def into (xs:LI)(n:Int):LI:=if n∈xs then xs else xs.takeWhile (λx=>decide (x<n))++n::xs.dropWhile (λx=>decide (x<n))
theorem mem_into {xs:LI}{n x:Int}:x∈into xs n↔x=n∨x∈xs:=by
 unfold into
 split
 ·constructor
  ·intro h;exact .inr h
  ·rintro(rfl|h)
   ·assumption
   ·exact h
 ·have e:x∈xs↔x∈xs.takeWhile (λx=>decide (x<n))++xs.dropWhile (λx=>decide (x<n)):=by rw[List.takeWhile_append_dropWhile]
  rw[e];simp only[List.mem_append,List.mem_cons]
  constructor
  ·rintro(h|h|h)<;>simp[h]
  ·rintro(h|h|h)<;>simp[h]
theorem Eo {xs:LI}{n:Int}(h:Inc xs):∀y∈xs.dropWhile (λx=>decide (x<n)),n≤y:=by
 induction xs with
 |nil=>simp
 |cons x xs ih=>
  have h':=List.pairwise_cons.1 h
  intro y hy
  rw[List.dropWhile_cons] at hy
  split at hy
  ·exact ih h'.2 y hy
  ·rename_i hc
   simp at hc
   rcases List.mem_cons.1 hy with rfl|hy
   ·exact hc
   ·have:=h'.1 y hy;omega
theorem inc_takeWhile {xs:LI}{n:Int}:∀y∈xs.takeWhile (λx=>decide (x<n)),y<n:=by
 intro y hy
 induction xs with
 |nil=>simp at hy
 |cons x xs ih=>
  rw[List.takeWhile_cons] at hy
  split at hy
  ·rename_i hc
   rcases List.mem_cons.1 hy with rfl|hy
   ·simpa using hc
   ·exact ih hy
  ·simp at hy
theorem Inc.into {xs:LI}(h:Inc xs)(n:Int):Inc (into xs n):=by
 unfold Sx.into
 split
 ·exact h
 ·rename_i hn
  unfold Inc
  rw[List.pairwise_append]
  refine⟨List.Pairwise.sublist (List.takeWhile_sublist _) h,List.pairwise_cons.2 ⟨λy hy=> ?_,List.Pairwise.sublist (List.dropWhile_sublist _) h⟩,λa ha b hb=> ?_⟩
  ·have h1:=Eo h y hy
   have h2:y≠n:=λe=>hn (e▸(List.dropWhile_sublist _).mem hy)
   omega
  ·have h1:=inc_takeWhile a ha
   rcases List.mem_cons.1 hb with rfl|hb
   ·exact h1
   ·have:=Eo h b hb;omega
theorem CM {α:Type}(p:α→Bool):∀(xs:List α),xs.takeWhile p=xs.take (xs.takeWhile p).length∧xs.dropWhile p=xs.drop (xs.takeWhile p).length
 |[]=>by simp
 |x::xs=>by
  rw[List.takeWhile_cons,List.dropWhile_cons]
  cases p x
  ·simp
  ·have:=CM p xs
   simp only[if_true,List.length_cons,List.take_succ_cons,List.drop_succ_cons,←this.1,←this.2,and_self]
theorem CT {α:Type}(p:α→Bool):∀(xs:List α) (i:Nat) (h:i<(xs.takeWhile p).length) (h':i<xs.length),p xs[i]=true
 |x::xs,i,h,h'=>by
  rw[List.takeWhile_cons] at h
  cases hp:p x
  ·rw[hp] at h;simp at h
  ·rw[hp] at h
   cases i with
   |zero=>simpa using hp
   |succ i=>simp only[if_true,List.length_cons] at h;simpa using CT p xs i (by omega) (by simpa using h')
theorem De {α:Type}(p:α→Bool):∀(xs:List α) (h:(xs.takeWhile p).length<xs.length),p (xs[(xs.takeWhile p).length])=false
 |x::xs,h=>by
  cases hp:p x
  ·simp[List.takeWhile_cons,hp]
  ·have h2:(xs.takeWhile p).length<xs.length:=by simpa [List.takeWhile_cons,hp] using h
   simpa [List.takeWhile_cons,hp] using De p xs h2
theorem EZ {α:Type}(p:α→Bool)(xs:List α):(xs.takeWhile p).length≤xs.length:=(List.takeWhile_sublist _).length_le
theorem l1Into_eq (xs:LI)(n:Int)(h:Inc xs)(hl:xs.length≤4294967295):D.O xs n=some (into xs n):=by
 unfold D.O
 generalize hk:(xs.takeWhile (λx=>decide (x<n))).length=k
 have hkl:k≤xs.length:=by rw[←hk];exact EZ _ _
 have htk:xs.takeWhile (λx=>decide (x<n))=xs.take k:=by rw[←hk];exact(CM _ xs).1
 have hdk:xs.dropWhile (λx=>decide (x<n))=xs.drop k:=by rw[←hk];exact(CM _ xs).2
 refine(Co (λi=>((i:Nat):Int)) k (k:Int) rfl (λi hi=> ?_) ?_).trans ?_
 ·have hi':i<xs.length:=by omega
  have hp:decide (xs[i]<n)=true:=CT (λx=>decide (x<n)) xs i (by omega) hi'
  simp only[dlt hi',cond_true,Az hi',bs,hp,wq i]
 ·by_cases hlt:k<xs.length
  ·have hp:decide (xs[k]<n)=false:=by
    have:=De (λx=>decide (x<n)) xs (by omega)
    simp only[hk] at this;exact this
   simp only[dlt hlt,cond_true,Az hlt,bs,hp,cond_false]
  ·obtain rfl:k=xs.length:=by omega
   simp only[Bm,cond_false,bs]
 ·have hS1:Sh (xs.take k):=by unfold Sh;rw[List.length_take];omega
  have hrest:((BR xs 0 (k:Int)).bind λl_135=>(D.R l_135).bind λy_139=>(AT y_139 ([n]:LI)).bind λl_154=>(BR xs (k:Int) (xs.length:Int)).bind λl_160=>(AT l_154 l_160).bind λl_164=>some l_164)=some (xs.take k++n::xs.drop k):=by
   simp only[Dt hkl,EX hkl,bs,l1Copy_eq _ hS1]
   rw[Bk (by simp;omega),bs,Bk (by simp;omega),bs]
   simp
  by_cases hlt:k<xs.length
  ·simp only[dlt hlt,cond_true,Az hlt,bs]
   by_cases he:xs[k]=n
   ·have hm:n∈xs:=by rw[←he];exact List.getElem_mem _
    have:(xs[k]==n)=true:=by simp[he]
    simp only[this,cond_true]
    unfold into;rw[if_pos hm]
   ·have:(xs[k]==n)=false:=by simpa using he
    simp only[this,cond_false,hrest]
    unfold into
    rw[htk,hdk,if_neg]
    intro hm
    obtain⟨j,hj,e⟩:=List.getElem_of_mem hm
    have hst:decide (xs[k]<n)=false:=by
     have:=De (λx=>decide (x<n)) xs (by omega)
     simp only[hk] at this;exact this
    simp at hst
    rcases Nat.lt_trichotomy j k with h1|h1|h1
    ·have:=CT (λx=>decide (x<n)) xs j (by omega) hj
     simp at this;omega
    ·subst h1;exact he e
    ·have:=(List.pairwise_iff_getElem.1 h) k j hlt hj h1
     omega
  ·obtain rfl:k=xs.length:=by omega
   simp only[Bm,cond_false,bs,hrest]
   unfold into
   rw[htk,hdk,if_neg]
   intro hm
   obtain⟨j,hj,e⟩:=List.getElem_of_mem hm
   have:=CT (λx=>decide (x<n)) xs j (by omega) hj
   simp at this;omega
theorem Inc.short {s:LI}{n:Nat}(h:Inc s)(hr:∀x∈s,0≤x∧x<n):s.length≤n:=by
 rcases SetOf.len h hr with e|e
 ·subst e;simp
 ·omega
end Go.Sx



namespace Go.Sx
structure DK (b:LI)(i:Int):Prop where
 byte:∀x∈b,0≤x∧x≤255
 len:b.length≤4096
 i0:0≤i
 i1:i≤b.length
theorem iand_u64_le (a:Int)(n:Nat)(hn:n<18446744073709551616):0≤iand .u64 a (n:Int)∧iand .u64 a (n:Int)≤n:=by
 have e:(BitVec.ofInt 64 (n:Int)).toNat=n:=by rw[BitVec.toNat_ofInt];omega
 have h:(BitVec.ofInt 64 a&&&BitVec.ofInt 64 (n:Int)).toNat≤n:=by
  rw[BitVec.toNat_and,e];exact Nat.and_le_right
 have w:∀m:Nat,m<18446744073709551616→IntKind.u64.wrap (m:Int)=m:=λm hm=>by
  simp[IntKind.wrap,IntKind.signed,IntKind.bits];omega
 have e2:iand .u64 a (n:Int)=(((BitVec.ofInt 64 a&&&BitVec.ofInt 64 (n:Int)).toNat:Nat):Int):=by
  show IntKind.u64.wrap (((BitVec.ofInt 64 a&&&BitVec.ofInt 64 (n:Int)).toNat:Nat):Int)=_
  exact w _ (by omega)
 rw[e2];omega
theorem tmod_rng {x n:Int}(hx:0≤x)(hn:0<n):0≤Int.tmod x n∧Int.tmod x n<n:=
 ⟨Int.tmod_nonneg _ hx,Int.tmod_lt_of_pos _ hn⟩
theorem below_ok {b:LI}{i:Int}(h:DK b i)(z n:Int)(hn:0<n):∃r i' z',D.n b i z n=some (r,b,i',z')∧0≤r∧r<n∧DK b i':=by
 obtain⟨h1,h2,h3,h4⟩:=h
 unfold D.n
 have hn0:(n==0)=false:=by simp;omega
 have hc:∀y:Int,0≤iand .u64 y 16777215∧iand .u64 y 16777215≤16777215:=λy=>iand_u64_le y 16777215 (by omega)
 by_cases hi:i<b.length
 ·have hb:=h1 _ (List.getElem_mem (show i.toNat<b.length by omega))
  simp only[hi,decide_true,cond_true,idx_int h3 hi,bs,hn0,cond_false]
  have hy:=hc (Bp .u64 (IntKind.u64.wrap ((IntKind.u64.wrap (z*6364136223846793005))+1442695040888963407)) 33)
  generalize iand .u64 (Bp .u64 (IntKind.u64.wrap ((IntKind.u64.wrap (z*6364136223846793005))+1442695040888963407)) 33) 16777215=y at hy ⊢
  rw[w64 (x:=y) (by omega) (by omega),w64 (x:=b[i.toNat]) (by omega) (by omega),w64 (x:=y+b[i.toNat]) (by omega) (by omega),w64 (x:=i+1) (by omega) (by omega)]
  have hr:=tmod_rng (x:=y+b[i.toNat]) (n:=n) (by omega) hn
  exact⟨_,_,_,rfl,hr.1,hr.2,h1,h2,by omega,by omega⟩
 ·simp only[hi,decide_false,cond_false,hn0]
  have hy:=hc (Bp .u64 (IntKind.u64.wrap ((IntKind.u64.wrap (z*6364136223846793005))+1442695040888963407)) 33)
  generalize iand .u64 (Bp .u64 (IntKind.u64.wrap ((IntKind.u64.wrap (z*6364136223846793005))+1442695040888963407)) 33) 16777215=y at hy ⊢
  rw[w64 (x:=y) (by omega) (by omega)]
  have hr:=tmod_rng (x:=y) (n:=n) (by omega) hn
  exact⟨_,_,_,rfl,hr.1,hr.2,h1,h2,h3,h4⟩
theorem Eh {b:LI}{i:Int}(h:DK b i)(z n:Int)(hn:0<n):∃y,D.n b i z n=some y∧(0≤y.1∧y.1<n∧y.2.1=b∧DK b y.2.2.1):=by
 obtain⟨r,i',z',e,h1,h2,h3⟩:=below_ok h z n hn
 exact⟨_,e,h1,h2,rfl,h3⟩
theorem roll_ok (code:LI)(seed:Int)(h:∀x∈code,0≤x∧x≤255)(hl:code.length≤4096):∃z,D.f0 code seed=some (code,0,z)∧DK code 0:=by
 unfold D.f0
 refine⟨_,(loop_listb code (λs i=>(i,s)) (λs e=>IntKind.u64.wrap ((IntKind.u64.wrap ((IntKind.u64.wrap (s*1099511628211))+(IntKind.u64.wrap e)))+3)) (λs=>s) (λ_=>True) _ trivial (λs i hi _=>⟨?_,trivial⟩) (λs _=> ?_)).trans rfl,h,hl,by omega,by omega⟩
 ·simp only[dlt hi,cond_true,Az hi,bs,wq i]
 ·simp only[Bm,cond_false]
theorem l1Empty_eq (n:Nat)(hn:n≤16):D.F (n:Int)=some (List.replicate n []):=by
 unfold D.F
 refine(Co (λi=>((i:Int),List.replicate i [])) n (List.replicate n []) (by simp) (λi hi=> ?_) ?_).trans rfl
 ·simp only[dlt hi,cond_true,wq i]
  rw[Bk (by simp;omega),bs,←List.replicate_succ']
 ·simp only[Bm,cond_false]
theorem row_set {g:LL}{u v:Nat}{r:LI}(hu:u<g.length):row (g.set u r) v=if v=u then r else row g v:=by
 unfold row
 by_cases h:v=u
 ·subst h;simp[hu]
 ·rw[if_neg h,List.getD_eq_getElem?_getD,List.getElem?_set_ne (λe=>h e.symm),←List.getD_eq_getElem?_getD]
theorem l1Link_ok {g:LL}(hg:GOk g){u v:Nat}(hu:u<g.length)(hv:v<g.length)(huv:u≠v):
  ∃g',D.B g (u:Int) (v:Int)=some g'∧GOk g'∧g'.length=g.length∧∀a b,adj g' a b↔adj g a b∨(a=u∧b=v)∨(a=v∧b=u):=by
 have h16:=hg.n16
 have hru:=hg.rows u hu;have hrv:=hg.rows v hv
 have hlu:=hg.row_len hu;have hlv:=hg.row_len hv
 refine⟨(g.set u (into (row g u) v)).set v (into (row g v) u),?_,?_⟩
 ·unfold D.B
  have e1:row (g.set u (into (row g u) v)) v=row g v:=by rw[row_set hu,if_neg (Ne.symm huv)]
  simp only[BY hu,bs,l1Into_eq _ _ hru.1 (show (row g u).length≤4294967295 by omega),Int.toNat_natCast]
  rw[BY (show v<(g.set u (into (row g u) v)).length by simpa using hv),e1]
  simp only[bs,l1Into_eq _ _ hrv.1 (show (row g v).length≤4294967295 by omega)]
 ·have hrow:∀w,row ((g.set u (into (row g u) v)).set v (into (row g v) u)) w=if w=v then into (row g v) u else if w=u then into (row g u) v else row g w:=by
   intro w
   rw[row_set (by simpa using hv),row_set hu]
  have hadj:∀a b,adj ((g.set u (into (row g u) v)).set v (into (row g v) u)) a b↔adj g a b∨(a=u∧b=v)∨(a=v∧b=u):=by
   intro a b
   unfold adj
   rw[hrow]
   by_cases ha:a=v
   ·subst ha
    rw[if_pos rfl,mem_into]
    constructor
    ·rintro(h|h)
     ·exact .inr (.inr ⟨rfl,by omega⟩)
     ·exact .inl h
    ·rintro(h|⟨h,_⟩|⟨_,h⟩)
     ·exact .inr h
     ·exact absurd h.symm huv
     ·exact .inl (by omega)
   ·rw[if_neg ha]
    by_cases ha':a=u
    ·subst ha'
     rw[if_pos rfl,mem_into]
     constructor
     ·rintro(h|h)
      ·exact .inr (.inl ⟨rfl,by omega⟩)
      ·exact .inl h
     ·rintro(h|⟨_,h⟩|⟨h,_⟩)
      ·exact .inr h
      ·exact .inl (by omega)
      ·exact absurd h ha
    ·rw[if_neg ha']
     constructor
     ·exact .inl
     ·rintro(h|⟨h,_⟩|⟨h,_⟩)
      ·exact h
      ·exact absurd h ha'
      ·exact absurd h ha
  refine⟨⟨by simpa using hg.n1,by simpa using h16,λw hw=> ?_,λw hw=> ?_,λa b ha hab=> ?_⟩,by simp,hadj⟩
  ·simp only[List.length_set] at hw ⊢
   rw[hrow]
   split
   ·refine⟨hrv.1.into _,λx hx=> ?_⟩
    rcases mem_into.1 hx with rfl|hx
    ·omega
    ·exact hrv.2 x hx
   ·split
    ·refine⟨hru.1.into _,λx hx=> ?_⟩
     rcases mem_into.1 hx with rfl|hx
     ·omega
     ·exact hru.2 x hx
    ·exact hg.rows w hw
  ·simp only[List.length_set] at hw
   rw[hadj]
   rintro(h|⟨h1,h2⟩|⟨h1,h2⟩)
   ·exact hg.irr w hw h
   ·omega
   ·omega
  ·simp only[List.length_set] at ha
   rw[hadj] at hab ⊢
   rcases hab with h|h|h
   ·exact .inl (hg.sym a b ha h)
   ·exact .inr (.inr ⟨h.2,h.1⟩)
   ·exact .inr (.inl ⟨h.2,h.1⟩)
theorem GOk.empty {n:Nat}(h1:1≤n)(h16:n≤16):GOk (List.replicate n []):=by
 have hr:∀v,row (List.replicate n []) v=[]:=λv=>by
  unfold row
  rw[List.getD_eq_getElem?_getD,List.getElem?_replicate];split<;>rfl
 refine⟨by simpa using h1,by simpa using h16,λv _=> ?_,λv _=> ?_,λu v _ h=> ?_⟩
 ·rw[hr];exact⟨by simp[Inc],by simp⟩
 ·unfold adj;rw[hr];simp
 ·unfold adj at h;rw[hr] at h;simp at h
def EdgeIn (n:Nat)(e:LI):Prop:=∃a b:Nat,e=[(a:Int),(b:Int)]∧a<b∧b<n
theorem setB_edge {n:Nat}{a b:Nat}(h:a<b)(hb:b<n):Db [(a:Int),(b:Int)] n=true:=by
 rw[CY]
 refine⟨by simp[Inc];omega,λx hx=> ?_⟩
 simp at hx
 rcases hx with rfl|rfl<;>omega
theorem GraphOf_ok (n:Nat)(edges:LL)(h1:1≤n)(h16:n≤16)(he:edges.length≤120)(hE:∀e∈edges,EdgeIn n e):
  ∃g,D.Y (n:Int) edges=some (g,true)∧GOk g∧g.length=n∧∀a b:Nat,adj g a b↔([(a:Int),(b:Int)]∈edges∧a<b)∨([(b:Int),(a:Int)]∈edges∧b<a):=by
 unfold D.Y
 rw[DD]
 have e1:(decide ((1:Int)≤(n:Int))&&decide ((n:Int)≤16))=true:=by simp;omega
 have e2:decide ((120:Int)<(edges.length:Int))=false:=by simp;omega
 simp only[bs,e1,e2,Bool.not_true,Bool.or_false,cond_false,l1Empty_eq n h16]
 have key:∀(k i:Nat) (g:LL),i+k=edges.length→GOk g→g.length=n→(∀a b:Nat,adj g a b↔([(a:Int),(b:Int)]∈edges.take i∧a<b)∨([(b:Int),(a:Int)]∈edges.take i∧b<a))→
   ∃g',Ar (σ:=Int×LL) (ρ:=(LL) ⊕ ((LL)×Bool)) (fun(s_217:Int×LL)=>match s_217 with|(x_220,l_221)=>cond (decide (x_220<(edges.length:Int))) ((idx edges x_220).bind λe_319=>(cond ((e_319.length:Int) !=2) (some true) ((idx edges x_220).bind λe_356=>(D.s e_356 (n:Int)).bind λy_362=>some (!y_362))).bind λb_354=>cond b_354 (some (.inr (.inr (([]:LL),false)))) ((idx edges x_220).bind λe_375=>(idx e_375 0).bind λe_381=>(idx edges x_220).bind λe_387=>(idx e_387 1).bind λe_393=>(D.B l_221 e_381 e_393).bind λy_401=>some (.inl ((IntKind.i64.wrap (x_220+1)),y_401)))) (some (.inr (.inl l_221)))) ((i:Int),g)=some (.inl g')∧GOk g'∧g'.length=n∧(∀a b:Nat,adj g' a b↔([(a:Int),(b:Int)]∈edges∧a<b)∨([(b:Int),(a:Int)]∈edges∧b<a)):=by
  intro k
  induction k with
  |zero=>
   intro i g hi hg hl ha
   obtain rfl:i=edges.length:=by omega
   rw[List.take_length] at ha
   exact⟨g,Bt (by simp only[Bm,cond_false]),hg,hl,ha⟩
  |succ k ih=>
   intro i g hi hg hl ha
   have hil:i<edges.length:=by omega
   obtain⟨a,b,eab,hab,hbn⟩:=hE _ (List.getElem_mem hil)
   obtain⟨g',k1,k2,k3,k4⟩:=l1Link_ok hg (u:=a) (v:=b) (by omega) (by omega) (by omega)
   obtain⟨g'',m1,m2⟩:=ih (i+1) g' (by omega) k2 (by omega) (λc d=>by
    rw[k4,ha,List.take_succ_eq_append_getElem hil]
    simp only[List.mem_append,List.mem_singleton,eab,List.cons.injEq,and_true]
    constructor
    ·rintro((⟨h,h'⟩|⟨h,h'⟩)|⟨rfl,rfl⟩|⟨rfl,rfl⟩)
     ·exact .inl ⟨.inl h,h'⟩
     ·exact .inr ⟨.inl h,h'⟩
     ·exact .inl ⟨.inr ⟨rfl,rfl⟩,hab⟩
     ·exact .inr ⟨.inr ⟨rfl,rfl⟩,hab⟩
    ·rintro(⟨h|⟨h,h2⟩,h'⟩|⟨h|⟨h,h2⟩,h'⟩)
     ·exact .inl (.inl ⟨h,h'⟩)
     ·exact .inr (.inl ⟨by omega,by omega⟩)
     ·exact .inl (.inr ⟨h,h'⟩)
     ·exact .inr (.inr ⟨by omega,by omega⟩))
   refine⟨g'',?_,m2⟩
   rw[B4 (s':=(((i+1:Nat):Int),g'))]
   ·exact m1
   ·have h0:idx [(a:Int),(b:Int)] 0=some (a:Int):=rfl
    have h1':idx [(a:Int),(b:Int)] 1=some (b:Int):=rfl
    have hlen:((([(a:Int),(b:Int)]).length:Int) !=2)=false:=rfl
    simp only[dlt hil,cond_true,Az hil,eab,bs,hlen,cond_false,l1Set_eq [(a:Int),(b:Int)] n (by simp[Sh]) (by omega) (by omega),setB_edge hab hbn,Bool.not_true,h0,h1',k1,wq i]
 obtain⟨g',m1,m2,m3,m4⟩:=key edges.length 0 (List.replicate n []) (by omega) (GOk.empty h1 h16) (by simp) (λa b=>by
  unfold adj row
  rw[List.getD_eq_getElem?_getD,List.getElem?_replicate]
  split<;>simp)
 refine⟨g',?_,m2,m3,m4⟩
 rw[show ((0:Nat):Int)=0 from rfl] at m1
 rw[m1];rfl
theorem w9Graph_ok {b:LI}{i:Int}(h:DK b i)(z:Int)(most:Nat)(h1:1≤most)(h8:most≤8):
  ∃y,D.d1 b i z (most:Int)=some y∧(GOk y.1∧y.1.length≤most∧y.2.1=b∧DK b y.2.2.1):=by
 unfold D.d1
 refine CE _ (Eh h z most (by omega)) ?_
 rintro⟨r,b1,i1,z1⟩ ⟨r0,r1,rfl,k1⟩
 dsimp only at r0 r1 k1 ⊢
 refine CE _ (Eh k1 z1 3 (by omega)) ?_
 rintro⟨q,b2,i2,z2⟩ ⟨q0,q1,rfl,k2⟩
 dsimp only at q0 q1 k2 ⊢
 obtain⟨n,en,en'⟩:∃n:Nat,IntKind.i64.wrap (1+r)=(n:Int)∧(n:Int)=1+r:=⟨(1+r).toNat,by rw[w64 (by omega) (by omega)];omega,by omega⟩
 rw[en]
 refine AS (λs=>∃v:Nat,s.2.1=(v:Int)∧1≤v∧v≤n∧s.2.2.1=b2∧DK b2 s.2.2.2.1∧s.1.length≤8*v+v∧∀e∈s.1,EdgeIn n e) (λs=>n-s.2.1.toNat)
  (λr=>r.2.1=b2∧DK b2 r.2.2.1∧r.1.length≤120∧∀e∈r.1,EdgeIn n e) ?_ ?_ ?_
 ·rintro⟨l,_,b2,i,z⟩ ⟨v,rfl,g1,g2,rfl,hk,hl,hE⟩
  dsimp only at hk hl hE ⊢
  by_cases hv:v<n
  ·simp only[dlt hv,cond_true]
   refine AS (λs=>∃u:Nat,s.2.1=(u:Int)∧u≤v∧s.2.2.1=b2∧DK b2 s.2.2.2.1∧s.1.length≤8*v+v+u∧∀e∈s.1,EdgeIn n e) (λs=>v-s.2.1.toNat)
    (λr=>r.2.1=b2∧DK b2 r.2.2.1∧r.1.length≤8*v+v+v∧∀e∈r.1,EdgeIn n e) ?_ ⟨0,rfl,by omega,rfl,hk,by dsimp only;omega,hE⟩ ?_
   ·rintro⟨l,_,b2,i,z⟩ ⟨u,rfl,g3,rfl,hk,hl,hE⟩
    dsimp only at hk hl hE ⊢
    by_cases hu:u<v
    ·simp only[dlt hu,cond_true]
     refine CE _ (Eh hk z 4 (by omega)) ?_
     rintro⟨t,b2,i3,z3⟩ ⟨t0,t1,rfl,hk'⟩
     dsimp only at t0 t1 hk' ⊢
     by_cases hc:t<IntKind.i64.wrap (1+q)
     ·simp only[hc,decide_true,cond_true,wq u]
      rw[Bk (by simp;omega),bs]
      refine⟨_,rfl,⟨u+1,rfl,by omega,rfl,hk',by simp;omega,λe he=> ?_⟩,by dsimp only;omega⟩
      rcases List.mem_append.1 he with he|he
      ·exact hE e he
      ·simp at he;subst he;exact⟨u,v,rfl,hu,hv⟩
     ·simp only[hc,decide_false,cond_false,wq u]
      exact⟨_,rfl,⟨u+1,rfl,by omega,rfl,hk',by dsimp only;omega,hE⟩,by dsimp only;omega⟩
    ·obtain rfl:u=v:=by omega
     simp only[Bm,cond_false]
     exact⟨_,rfl,rfl,hk,by dsimp only;omega,hE⟩
   ·rintro⟨l,b2,i3,z3⟩ ⟨rfl,hk',hl',hE'⟩
    dsimp only at hk' hl' hE' ⊢
    simp only[wq v]
    exact⟨_,rfl,⟨v+1,rfl,by omega,by omega,rfl,hk',by dsimp only;omega,hE'⟩,by dsimp only;omega⟩
  ·obtain rfl:v=n:=by omega
   simp only[Bm,cond_false]
   exact⟨_,rfl,rfl,hk,by dsimp only;omega,hE⟩
 ·exact⟨1,rfl,by omega,by omega,rfl,k2,by simp,by simp⟩
 ·rintro⟨l,b2,i3,z3⟩ ⟨rfl,hk,hl,hE⟩
  dsimp only at hk hl hE ⊢
  obtain⟨g,m1,m2,m3,_⟩:=GraphOf_ok n l (by omega) (by omega) hl hE
  rw[m1,bs]
  exact⟨_,rfl,m2,by dsimp only;omega,rfl,hk⟩
end Go.Sx



namespace Go.Sx
theorem ext_getD {a b:LI}(hl:a.length=b.length)(h:∀j,j<a.length→a.getD j 0=b.getD j 0):a=b:=by
 apply List.ext_getElem hl
 intro j h1 h2
 have:=h j h1
 rwa [AA h1,AA h2] at this
theorem Cu (l:LI)(i j:Nat)(x:Int)(hi:i<l.length):(l.set i x).getD j 0=if j=i then x else l.getD j 0:=by
 simp only[List.getD_eq_getElem?_getD,List.getElem?_set]
 by_cases h:j=i
 ·subst h;simp[hi]
 ·rw[if_neg (λe=>h e.symm),if_neg h]
def nb (F:LI)(u w:Nat):Bool:=has (F.getD u 0) w
structure FOk (F:LI)(n:Nat):Prop where
 len:F.length=n
 vs:∀u,u<n→VS (F.getD u 0)
 lt:∀u w,u<n→nb F u w=true→w<n
 irr:∀u,u<n→nb F u u=false
 sym:∀u w,u<n→nb F u w=true→nb F w u=true
theorem FOk.ext {F F':LI}{n:Nat}(h:F.length=n)(h':F'.length=n)(v:∀u,u<n→VS (F.getD u 0))(v':∀u,u<n→VS (F'.getD u 0))(e:∀u w,u<n→nb F u w=nb F' u w):F=F':=by
 refine ext_getD (by omega) (λj hj=> ?_)
 exact(v j (by omega)).ext (v' j (by omega)) (λw _=>e j w (by omega))
theorem DW (g:LL)(u:Nat):(g.map mk).getD u 0=mk (row g u):=by
 unfold row
 simp only[List.getD_eq_getElem?_getD,List.getElem?_map]
 cases g[u]? with
 |none=>simp[mk]
 |some r=>rfl
theorem CS {g:LL}(hg:GOk g){u w:Nat}(hu:u<g.length):nb (g.map mk) u w=true↔adj g u w:=by
 have h16:=hg.n16
 unfold nb
 rw[DW,has_mk (λx hx=>by have:=(hg.rows u hu).2 x hx;omega)]
 simp[adj]
theorem FOk.of {g:LL}(hg:GOk g):FOk (g.map Sx.mk) g.length:=by
 refine⟨by simp,λu _=>by rw[DW];exact VS.mk _,λu w hu h=>hg.lt hu ((CS hg hu).1 h),λu hu=> ?_,λu w hu h=> ?_⟩
 ·cases h:nb (g.map Sx.mk) u u
  ·rfl
  ·exact absurd ((CS hg hu).1 h) (hg.irr u hu)
 ·have ha:=(CS hg hu).1 h
  exact(CS hg (hg.lt hu ha)).2 (hg.sym u w hu ha)
def grow (F:LI):LL:=F.map Aq
theorem row_grow (F:LI)(u:Nat):row (grow F) u=Aq (F.getD u 0):=by
 unfold row grow
 simp only[List.getD_eq_getElem?_getD,List.getElem?_map]
 cases F[u]? with
 |none=>simp[elems_zero]
 |some r=>rfl
theorem adj_grow {F:LI}{n u w:Nat}(h:FOk F n)(hu:u<n):adj (grow F) u w↔nb F u w=true:=by
 unfold adj nb
 rw[row_grow,AM (h.vs u hu)]
theorem GOk.grow {F:LI}{n:Nat}(h:FOk F n)(h1:1≤n)(h16:n≤16):GOk (grow F):=by
 have hl:(Sx.grow F).length=n:=by unfold Sx.grow;rw[List.length_map,h.len]
 refine⟨by omega,by omega,λv hv=> ?_,λv hv ha=> ?_,λu v hu ha=> ?_⟩
 ·rw[row_grow,hl]
  refine⟨BD _,λx hx=> ?_⟩
  obtain⟨w,_,h2,rfl⟩:=mem_elems.1 hx
  have:=h.lt v w (by omega) h2
  omega
 ·rw[adj_grow h (by omega)] at ha
  rw[h.irr v (by omega)] at ha;cases ha
 ·rw[adj_grow h (by omega)] at ha
  have:=h.lt u v (by omega) ha
  rw[adj_grow h (by omega)]
  exact h.sym u v (by omega) ha
theorem all_mask :∀n:Fin 17,∀v:Fin 32,has (IntKind.u32.wrap (ishl .u32 1 (n.val:Int)-1)) v.val=decide (v.val<n.val):=by decide+kernel
def PEO (F:LI)(o:LI):Prop:=∀(j:Nat) (v u w:Nat),o[j]? =some (v:Int)→nb F v u=true→nb F v w=true→(u:Int)∉o.take (j+1)→(w:Int)∉o.take (j+1)→u≠w→nb F u w=true
def Lat (F L:LI)(o:LI)(i:Nat):Prop:=∀(j:Nat) (v:Nat),j<i→o[j]? =some (v:Int)→∀w,nb L v w=(nb F v w&&decide ((w:Int)∉o.take (j+1)))
inductive Via (F:LI)(gone:Nat→Prop)(u:Nat):Nat→Prop
 |me:Via F gone u u
 |step {x y:Nat}:Via F gone u x→nb F x y=true→gone y→Via F gone u y
theorem Via.mono {F:LI}{g g':Nat→Prop}{u x:Nat}(h:Via F g u x)(hg:∀y,g y→g' y):Via F g' u x:=by
 induction h with
 |me=>exact .me
 |step _ h1 h2 ih=>exact .step ih h1 (hg _ h2)
theorem Via.end_ {F:LI}{g:Nat→Prop}{u x:Nat}(h:Via F g u x):x=u∨g x:=by
 cases h with
 |me=>exact .inl rfl
 |step _ _ h2=>exact .inr h2
theorem Via.lt {F:LI}{n:Nat}(hF:FOk F n){g:Nat→Prop}{u x:Nat}(hu:u<n)(h:Via F g u x):x<n:=by
 induction h with
 |me=>exact hu
 |step _ h1 _ ih=>exact hF.lt _ _ ih h1
theorem Via.back {F:LI}{n:Nat}(hF:FOk F n){g g':Nat→Prop}(hg:∀y,g y→g' y){v x:Nat}(hv:v<n)(hgv:g' v)(h:Via F g v x):∀z,Via F g' z x→Via F g' z v:=by
 induction h with
 |me=>exact λz h=>h
 |step hx h1 h2 ih=>
  intro z hz
  have hxn:=Via.lt hF hv hx
  refine ih z (.step hz (hF.sym _ _ hxn h1) ?_)
  rcases hx.end_ with e|e
  ·rw[e];exact hgv
  ·exact hg _ e
def Bhd (F:LI)(gone:Nat→Prop)(v w:Nat):Prop:=∃x,Via F gone v x∧nb F x w=true
structure EInv (n:Nat)(F0 o:LI)(i:Nat)(F L:LI)(left:Int):Prop where
 f:FOk F n
 lenL:L.length=n
 vsL:∀u,u<n→VS (L.getD u 0)
 vsl:VS left
 left:∀v,has left v=decide (v<n∧(v:Int)∉o.take i)
 mono:∀u w,u<n→nb F0 u w=true→nb F u w=true
 lat:Lat F L o i
 peo:∀(j:Nat) (v u w:Nat),j<i→o[j]? =some (v:Int)→nb F v u=true→nb F v w=true→(u:Int)∉o.take (j+1)→(w:Int)∉o.take (j+1)→u≠w→nb F u w=true
 same:PEO F0 o→F=F0
 via:∀u w:Nat,u<n→(u:Int)∉o.take i→(w:Int)∉o.take i→u≠w→(nb F u w=true↔Bhd F0 (λx=>(x:Int)∈o.take i) u w)
 latb:∀(j:Nat) (v:Nat),j<i→o[j]? =some (v:Int)→∀w:Nat,nb L v w=true↔(w:Int)∉o.take (j+1)∧Bhd F0 (λx=>(x:Int)∈o.take j) v w
theorem CV {o:LI}{j i:Nat}(h:j≤i){x:Int}(hx:x∈o.take j):x∈o.take i:=by
 rw[mem_take_iff] at hx ⊢
 obtain⟨k,h1,h2,h3⟩:=hx
 exact⟨k,h1,by omega,h3⟩
theorem EInv.step {n:Nat}{F0 o F L:LI}{i v:Nat}{left:Int}(h16:n≤16)(h0:FOk F0 n)(hn:∀x∈o,0≤x∧x<n)(hnd:o.Nodup)(hi:i<o.length)(hv:o[i]=(v:Int))(h:EInv n F0 o i F L left){F':LI}
  (hl':F'.length=n) (hv':∀u,u<n→VS (F'.getD u 0)) (h':∀u w,u<n→nb F' u w=(nb F u w||(has (iand .u32 (F.getD v 0) (iandNot .u32 left (ishl .u32 1 (v:Int)))) u&&has (iand .u32 (F.getD v 0) (iandNot .u32 left (ishl .u32 1 (v:Int)))) w&&decide (w≠u)))):
  EInv n F0 o (i+1) F' (L.set v (iand .u32 (F.getD v 0) (iandNot .u32 left (ishl .u32 1 (v:Int))))) (iandNot .u32 left (ishl .u32 1 (v:Int))):=by
 have hvn:v<n:=by have:=hn _ (List.getElem_mem hi);omega
 have hvt:(v:Int)∉o.take i:=by rw[←hv];exact nodup_iff.1 hnd i hi
 have htk:∀x:Nat,((x:Int)∈o.take (i+1))↔((x:Int)∈o.take i∨x=v):=λx=>by
  rw[List.take_succ_eq_append_getElem hi,List.mem_append,hv];simp[Int.natCast_inj]
 have hleft:∀w,has (iandNot .u32 left (ishl .u32 1 (v:Int))) w=decide (w<n∧(w:Int)∉o.take (i+1)):=λw=>by
  rw[BJ h.vsl (VS.ishl _ _),Bx (by omega),h.left,Bool.eq_iff_iff]
  simp only[Bool.and_eq_true,decide_eq_true_eq,Bool.not_eq_true',decide_eq_false_iff_not,htk]
  constructor
  ·rintro⟨⟨a,b⟩,c⟩;exact⟨a,λhh=>hh.elim b c⟩
  ·rintro⟨a,b⟩;exact⟨⟨a,λhh=>b (.inl hh)⟩,λhh=>b (.inr hh)⟩
 have hS:∀w,has (iand .u32 (F.getD v 0) (iandNot .u32 left (ishl .u32 1 (v:Int)))) w=(nb F v w&&decide ((w:Int)∉o.take (i+1))):=λw=>by
  rw[has_iand (h.f.vs v hvn) (VS.iandNot _ _),hleft,Bool.eq_iff_iff]
  show (nb F v w&&_)=true↔_
  simp only[Bool.and_eq_true,decide_eq_true_eq]
  exact⟨fun⟨a,b,c⟩=>⟨a,c⟩,fun⟨a,c⟩=>⟨a,h.f.lt v w hvn a,c⟩⟩
 have hlV:VS (iandNot .u32 left (ishl .u32 1 (v:Int))):=VS.iandNot _ _
 generalize iandNot .u32 left (ishl .u32 1 (v:Int))=left' at*
 generalize hSS:iand .u32 (F.getD v 0) left'=S at*
 have hSV:VS S:=by rw[←hSS];exact VS.iand _ _
 have hSlt:∀w,has S w=true→w<n∧(w:Int)∉o.take (i+1):=λw hw=>by
  rw[hS] at hw
  simp only[Bool.and_eq_true,decide_eq_true_eq] at hw
  exact⟨h.f.lt v w hvn hw.1,hw.2⟩
 have hmono:∀u w,u<n→nb F u w=true→nb F' u w=true:=λu w hu hh=>by rw[h' u w hu,hh];rfl
 have hold:∀x:Nat,x<n→(x:Int)∈o.take (i+1)→∀w,nb F' x w=nb F x w:=λx hx hm w=>by
  rw[h' x w hx]
  have:has S x=false:=by
   cases hc:has S x
   ·rfl
   ·exact absurd hm (hSlt x hc).2
  simp[this]
 have hf':FOk F' n:=by
  refine⟨hl',hv',λu w hu hh=> ?_,λu hu=> ?_,λu w hu hh=> ?_⟩
  ·rw[h' u w hu] at hh
   simp only[Bool.or_eq_true,Bool.and_eq_true] at hh
   rcases hh with hh|⟨⟨_,hh⟩,_⟩
   ·exact h.f.lt u w hu hh
   ·exact(hSlt w hh).1
  ·rw[h' u u hu,h.f.irr u hu];simp
  ·rw[h' u w hu] at hh
   simp only[Bool.or_eq_true,Bool.and_eq_true,decide_eq_true_eq] at hh
   rcases hh with hh|⟨⟨h1,h2⟩,h3⟩
   ·exact hmono w u (h.f.lt u w hu hh) (h.f.sym u w hu hh)
   ·rw[h' w u (hSlt w h2).1,h1,h2]
    have:decide (u≠w)=true:=by simpa using λe=>h3 e.symm
    simp[this]
 have hjv:∀j (x:Nat),o[j]? =some (x:Int)→j<o.length∧x<n∧(x:Int)∈o.take (j+1):=λj x hx=>by
  obtain⟨h1,h2⟩:=List.getElem?_eq_some_iff.1 hx
  have:=hn _ (List.getElem_mem h1)
  refine⟨h1,by omega,?_⟩
  rw[mem_take_iff];exact⟨j,h1,by omega,h2⟩
 refine⟨hf',by simp[h.lenL],λu hu=> ?_,hlV,hleft,λu w hu hh=>hmono u w hu (h.mono u w hu hh),λj x hj hx w=> ?_,λj x u w hj hx h1 h2 h3 h4 h5=> ?_,λhp=> ?_,λu w hu k1 k2 huw=> ?_,λj x hj hx w=> ?_⟩
 ·rw[Cu _ _ _ _ (by rw[h.lenL];exact hvn)]
  split
  ·exact hSV
  ·exact h.vsL u hu
 ·obtain⟨k1,k2,k3⟩:=hjv j x hx
  have k4:=CV (show j+1≤i+1 by omega) k3
  rw[hold x k2 k4 w]
  unfold nb
  rw[Cu _ _ _ _ (by rw[h.lenL];exact hvn)]
  by_cases hji:j=i
  ·subst hji
   rw[List.getElem?_eq_getElem hi,hv] at hx
   have:x=v:=by
    have:(v:Int)=(x:Int):=by simpa using hx
    omega
   subst this
   rw[if_pos rfl,hS];rfl
  ·have hne:x≠v:=λe=>by
    subst e
    exact hvt (CV (show j+1≤i by omega) k3)
   rw[if_neg hne]
   exact h.lat j x (by omega) hx w
 ·obtain⟨k1,k2,k3⟩:=hjv j x hx
  have k4:=CV (show j+1≤i+1 by omega) k3
  rw[hold x k2 k4] at h1 h2
  by_cases hji:j=i
  ·subst hji
   rw[List.getElem?_eq_getElem hi,hv] at hx
   have:x=v:=by
    have:(v:Int)=(x:Int):=by simpa using hx
    omega
   subst this
   have hu:has S u=true:=by rw[hS,h1];simpa using h3
   have hw:has S w=true:=by rw[hS,h2];simpa using h4
   rw[h' u w (hSlt u hu).1,hu,hw]
   have:decide (w≠u)=true:=by simpa using λe=>h5 e.symm
   simp[this]
  ·exact hmono u w (h.f.lt x u k2 h1) (h.peo j x u w (by omega) hx h1 h2 h3 h4 h5)
 ·have hFF:=h.same hp
  subst hFF
  refine FOk.ext hl' h.f.len hv' h.f.vs (λu w hu=> ?_)
  rw[h' u w hu,Bool.eq_iff_iff]
  simp only[Bool.or_eq_true,Bool.and_eq_true,decide_eq_true_eq]
  constructor
  ·rintro(hh|⟨⟨h1,h2⟩,h3⟩)
   ·exact hh
   ·have k1:=(hSlt u h1).2;have k2:=(hSlt w h2).2
    rw[hS] at h1 h2
    simp only[Bool.and_eq_true] at h1 h2
    exact hp i v u w (by rw[List.getElem?_eq_getElem hi,hv]) h1.1 h2.1 k1 k2 (λe=>h3 e.symm)
  ·exact .inl
 ·have q1:(u:Int)∉o.take i:=λe=>k1 ((htk u).2 (.inl e))
  have q2:(w:Int)∉o.take i:=λe=>k2 ((htk w).2 (.inl e))
  have huv:u≠v:=λe=>k1 ((htk u).2 (.inr e))
  have hwv:w≠v:=λe=>k2 ((htk w).2 (.inr e))
  have hgg:∀y:Nat,(y:Int)∈o.take i→(y:Int)∈o.take (i+1):=λy hy=>(htk y).2 (.inl hy)
  rw[h' u w hu]
  simp only[Bool.or_eq_true,Bool.and_eq_true,decide_eq_true_eq]
  constructor
  ·rintro(hh|⟨⟨a1,a2⟩,_⟩)
   ·obtain⟨x,hx,e⟩:=(h.via u w hu q1 q2 huw).1 hh
    exact⟨x,hx.mono hgg,e⟩
   ·rw[hS] at a1 a2
    simp only[Bool.and_eq_true,decide_eq_true_eq] at a1 a2
    obtain⟨x,hx,ex⟩:=(h.via v u hvn hvt q1 (λe=>huv e.symm)).1 a1.1
    obtain⟨y,hy,ey⟩:=(h.via v w hvn hvt q2 (λe=>hwv e.symm)).1 a2.1
    have hvg:(v:Int)∈o.take (i+1):=(htk v).2 (.inr rfl)
    have hxn:=Via.lt h0 hvn hx
    have hxg:(x:Int)∈o.take (i+1):=by
     rcases hx.end_ with e|e
     ·rw[e];exact hvg
     ·exact hgg x e
    have hux:Via F0 (λx=>(x:Int)∈o.take (i+1)) u x:= .step .me (h0.sym x u hxn ex) hxg
    have huv':=Via.back h0 (g':=λx=>(x:Int)∈o.take (i+1)) hgg hvn hvg hx u hux
    have hgo:∀y,Via F0 (λx=>(x:Int)∈o.take i) v y→Via F0 (λx=>(x:Int)∈o.take (i+1)) u y:=λy hy=>by
     induction hy with
     |me=>exact huv'
     |step _ b1 b2 ih=>exact .step ih b1 (hgg _ b2)
    exact⟨y,hgo y hy,ey⟩
  ·rintro⟨x,hx,ex⟩
   have hcl:∀x,Via F0 (λx=>(x:Int)∈o.take (i+1)) u x→Via F0 (λx=>(x:Int)∈o.take i) u x∨(Bhd F0 (λx=>(x:Int)∈o.take i) u v∧Via F0 (λx=>(x:Int)∈o.take i) v x):=λx hx=>by
    induction hx with
    |me=>exact .inl .me
    | @step a b _ b1 b2 ih=>
     rcases(htk b).1 b2 with b2|b2
     ·rcases ih with ih|⟨ih1,ih2⟩
      ·exact .inl (.step ih b1 b2)
      ·exact .inr ⟨ih1,.step ih2 b1 b2⟩
     ·rcases ih with ih|⟨ih1,ih2⟩
      ·subst b2;exact .inr ⟨⟨a,ih,b1⟩,.me⟩
      ·subst b2;exact .inr ⟨ih1,.me⟩
   rcases hcl x hx with hx|⟨hx1,hx2⟩
   ·exact .inl ((h.via u w hu q1 q2 huw).2 ⟨x,hx,ex⟩)
   ·right
    have a1:=(h.via u v hu q1 hvt huv).2 hx1
    have a2:=(h.via v w hvn hvt q2 (λe=>hwv e.symm)).2 ⟨x,hx2,ex⟩
    refine⟨⟨?_,?_⟩,λe=>huw e.symm⟩
    ·rw[hS,h.f.sym u v hu a1];simpa using k1
    ·rw[hS,a2];simpa using k2
 ·obtain⟨k1,k2,k3⟩:=hjv j x hx
  unfold nb
  rw[Cu _ _ _ _ (by rw[h.lenL];exact hvn)]
  by_cases hji:j=i
  ·subst hji
   rw[List.getElem?_eq_getElem hi,hv] at hx
   have:x=v:=by
    have:(v:Int)=(x:Int):=by simpa using hx
    omega
   subst this
   rw[if_pos rfl,hS,Bool.and_eq_true,decide_eq_true_eq]
   constructor
   ·rintro⟨b1,b2⟩
    have b3:(w:Int)∉o.take j:=λe=>b2 ((htk w).2 (.inl e))
    have b4:x≠w:=λe=>b2 ((htk w).2 (.inr e.symm))
    exact⟨b2,(h.via x w hvn hvt b3 b4).1 b1⟩
   ·rintro⟨b2,b1⟩
    have b3:(w:Int)∉o.take j:=λe=>b2 ((htk w).2 (.inl e))
    have b4:x≠w:=λe=>b2 ((htk w).2 (.inr e.symm))
    exact⟨(h.via x w hvn hvt b3 b4).2 b1,b2⟩
  ·have hne:x≠v:=λe=>by
    subst e
    exact hvt (CV (show j+1≤i by omega) k3)
   rw[if_neg hne]
   exact h.latb j x (by omega) hx w
def cnt (n k:Nat):Nat:=((List.range k).filter (λi=>n.testBit i)).length
theorem cnt_add (n a b:Nat):cnt n (a+b)=cnt n a+cnt (n>>>a) b:=by
 unfold cnt
 rw[List.range_add,List.filter_append,List.length_append,List.filter_map,List.length_map]
 congr 2
 apply List.filter_congr
 intro i _
 simp[Nat.testBit_shiftRight]
theorem cnt_mod (n k:Nat):cnt (n%2^k) k=cnt n k:=by
 unfold cnt
 congr 1
 apply List.filter_congr
 intro i hi
 have:=List.mem_range.1 hi
 rw[Nat.testBit_mod_two_pow];simp[this]
theorem elems_length (n:Nat):(Aq (n:Int)).length=cnt n 32:=by
 unfold Aq cnt
 rw[List.length_map]
 rfl
theorem pop_all :∀b:Fin 256,DR Ea (b.val:Int)=some ((cnt b.val 8:Nat):Int):=by decide+kernel
theorem pop_at {b:Nat}(h:b<256):DR Ea (b:Int)=some ((cnt b 8:Nat):Int):=pop_all ⟨b,h⟩
theorem cnt_le (n k:Nat):cnt n k≤k:=by
 unfold cnt
 exact Nat.le_trans (List.length_filter_le _ _) (by simp)
theorem wrap8 {x:Int}(h0:0≤x)(h:x<256):IntKind.u8.wrap x=x:=by
 simp[IntKind.wrap,IntKind.signed,IntKind.bits];omega
theorem OnesCount32_eq {s:Int}(h:VS s):D.n0 s=some ((Aq s).length:Int):=by
 obtain⟨n,rfl,hn⟩:=h.nat
 have s24:Bp .u32 (n:Int) 24=((n>>>24:Nat):Int):=shr_eq (n:Int) 24 h (by omega)
 have s16:Bp .u32 (n:Int) 16=((n>>>16:Nat):Int):=shr_eq (n:Int) 16 h (by omega)
 have s8:Bp .u32 (n:Int) 8=((n>>>8:Nat):Int):=shr_eq (n:Int) 8 h (by omega)
 have lt:∀k,n>>>k<4294967296:=λk=>by
  rw[Nat.shiftRight_eq_div_pow];exact Nat.lt_of_le_of_lt (Nat.div_le_self _ _) hn
 have a255:∀m:Nat,m<4294967296→iand .u32 (m:Int) 255=((m%256:Nat):Int):=λm hm=>by
  have:=CX hm (show (255:Nat)<4294967296 by omega)
  rw[show ((255:Nat):Int)=255 from rfl] at this
  rw[this]
  congr 1
  exact Nat.and_two_pow_sub_one_eq_mod (n:=8) m
 have h24:n>>>24<256:=by rw[Nat.shiftRight_eq_div_pow];exact Nat.div_lt_of_lt_mul (by simpa using hn)
 have ec:cnt n 32=cnt (n%256) 8+cnt (n>>>8%256) 8+cnt (n>>>16%256) 8+cnt (n>>>24) 8:=by
  rw[show (32:Nat)=8+(8+(8+8)) from rfl,cnt_add n 8,cnt_add _ 8,cnt_add _ 8]
  have e1:=cnt_mod n 8;have e2:=cnt_mod (n>>>8) 8;have e3:=cnt_mod (n>>>16) 8
  simp only[show (2:Nat)^8=256 from rfl] at e1 e2 e3
  rw[e1,e2,e3]
  simp only[←Nat.shiftRight_add,Nat.reduceAdd]
  omega
 unfold D.n0
 rw[s24,s16,s8,a255 _ (lt 16),a255 _ (lt 8),a255 n hn,pop_at h24,pop_at (Nat.mod_lt _ (by omega)),pop_at (Nat.mod_lt _ (by omega)),pop_at (Nat.mod_lt _ (by omega))]
 simp only[bs]
 have c1:=cnt_le (n>>>24) 8;have c2:=cnt_le (n>>>16%256) 8;have c3:=cnt_le (n>>>8%256) 8;have c4:=cnt_le (n%256) 8
 generalize cnt (n>>>24) 8=a at*;generalize cnt (n>>>16%256) 8=b at*;generalize cnt (n>>>8%256) 8=c at*;generalize cnt (n%256) 8=d at*
 rw[wrap8 (x:=(a:Int)+b) (by omega) (by omega),wrap8 (x:=(a:Int)+b+c) (by omega) (by omega),wrap8 (x:=(a:Int)+b+c+d) (by omega) (by omega),w64 (by omega) (by omega),elems_length,ec]
 congr 1
 omega
theorem size_eq {s:Int}(h:VS s):D.v0 s=some ((Aq s).length:Int):=by
 unfold D.v0;rw[OnesCount32_eq h];rfl
def cz :LI→LI→Int
 |[],[]=>0
 |[],_::_=> -1
 |_::_,[]=>1
 |a::x,b::y=>if a<b then-1 else if b<a then 1 else cz x y
def lk :Nat→LI→Int
 |0,_=>0
 |_+1,[]=>0
 |d+1,a::l=>(a+1)*33^d+lk d l
def lkey (s:Int):Int:=lk 32 (Aq s)
def skey (s:Int):Int:=((Aq s).length:Int)*33^32+lkey s
theorem Bq :∀{l m:LI},l.Nodup→(∀x∈l,x∈m)→l.length≤m.length
 |[],_,_,_=>by simp
 |x::l,m,h,hs=>by
  have h':=List.nodup_cons.1 h
  have hx:=hs x (by simp)
  have:=Bq (l:=l) (m:=m.erase x) h'.2 (λy hy=>by
   have hne:y≠x:=λe=>h'.1 (e▸hy)
   exact(List.mem_erase_of_ne hne).2 (hs y (by simp[hy])))
  rw[List.length_erase_of_mem hx] at this
  have hp:0<m.length:=List.length_pos_of_mem hx
  simp;omega
theorem Inc.nodup {l:LI}(h:Inc l):l.Nodup:=List.Pairwise.imp (λh e=>by omega) h
theorem l1All_eq (n:Nat)(hn:n≤4294967295):D.L0 (n:Int)=some ((List.range n).map Int.ofNat):=by
 unfold D.L0
 refine(Co (λi=>((List.range i).map Int.ofNat,(i:Int))) n ((List.range n).map Int.ofNat) (by simp) (λi hi=> ?_) ?_).trans rfl
 ·simp only[dlt hi,cond_true,wq i]
  rw[Bk (by simp;omega),bs,List.range_succ,List.map_append];rfl
 ·simp only[Bm,cond_false]
def withV (bags:LL)(v:Int):LI:=((List.range bags.length).filter λb=>decide (v∈bags.getD b [])).map Int.ofNat
theorem mem_withV {bags:LL}{v x:Int}:x∈withV bags v↔∃b:Nat,x=b∧b<bags.length∧v∈bags.getD b []:=by
 unfold withV
 rw[List.mem_map]
 constructor
 ·rintro⟨b,hb,rfl⟩
  rw[List.mem_filter,List.mem_range] at hb
  exact⟨b,rfl,hb.1,of_decide_eq_true hb.2⟩
 ·rintro⟨b,rfl,h1,h2⟩
  exact⟨b,List.mem_filter.2 ⟨List.mem_range.2 h1,decide_eq_true h2⟩,rfl⟩
def Lk (links:LL)(x y:Int):Prop:=[x,y]∈links∨[y,x]∈links
structure Closed (links:LL)(sel m:LI):Prop where
 sub:∀x∈m,x∈sel
 first:∀x,sel.head? =some x→x∈m
 step:∀x∈m,∀y∈sel,Lk links x y→y∈m
def Conn (links:LL)(sel:LI):Prop:=∀m,Closed links sel m→∀x∈sel,x∈m
def LinkIn (n:Nat)(l:LI):Prop:=∃a b:Nat,l=[(a:Int),(b:Int)]∧a<b∧b<n
structure TB (g bags links:LL):Prop where
 n1:1≤bags.length
 n16:bags.length≤16
 many:links.length+1=bags.length
 lks:∀l∈links,LinkIn bags.length l
 sets:∀b∈bags,SetOf b g.length
 tree:Conn links ((List.range bags.length).map Int.ofNat)
 edges:∀u v:Nat,u<g.length→adj g u v→∃b∈bags,(u:Int)∈b∧(v:Int)∈b
 some:∀v,v<g.length→withV bags v≠[]
 conn:∀v,v<g.length→Conn links (withV bags v)
def rowF (r:LI)(u:Nat)(s:LL):LL:=(List.range r.length).foldl (λs i=>if(u:Int)<r.getD i 0 then s++[[(u:Int),r.getD i 0]] else s) s
theorem inner_edges (r:LI)(u:Nat)(s0:LL)(h:s0.length+r.length≤4294967296){step:LL×Int→Option ((LL×Int) ⊕ LL)}
  (hstep:∀s (i:Nat) (hi:i<r.length),step (s,(i:Int))=cond (decide ((u:Int)<r[i])) ((AT s [[(u:Int),r[i]]]).bind λl=>some (.inl (l,((i+1:Nat):Int)))) (some (.inl (s,((i+1:Nat):Int)))))
  (hend:∀s,step (s,(r.length:Int))=some (.inr s)):Ar step (s0,0)=some (rowF r u s0)∧(rowF r u s0).length≤s0.length+r.length:=by
 have key:=loop_nat (step:=step) r.length (λs i=>(s,i)) (λs i=>if(u:Int)<r.getD i 0 then s++[[(u:Int),r.getD i 0]] else s) (λs=>s) (λi s=>s.length≤s0.length+i) s0 (by omega)
  (λs i hi hs=> ?_) (λs _=>hend s)
 ·exact key
 ·have hg:r.getD i 0=r[i]:=AA hi 0
  refine⟨?_,?_⟩
  ·rw[hstep s i hi,hg]
   by_cases hc:(u:Int)<r[i]
   ·rw[decide_eq_true hc,cond_true,Bk (by simp;omega),if_pos hc];rfl
   ·rw[decide_eq_false hc,cond_false,if_neg hc]
  ·rw[hg]
   split
   ·rw[List.length_append,List.length_singleton];omega
   ·omega
def edgesF (g:LL):LL:=(List.range g.length).foldl (λs u=>rowF (row g u) u s) []
theorem E4 (g:LL)(hg:GOk g):D.k1 g=some (edgesF g):=by
 have h16:=hg.n16
 unfold D.k1
 have key:=loop_nat (ρ:=LL) (step:=(fun(s_288:LL×Int)=>match s_288 with|(l_291,x_296)=>cond (decide (x_296<(g.length:Int))) ((idx g x_296).bind λe_441=>(Ar (σ:=LL×Int) (ρ:=(LL)) (fun(s_508:LL×Int)=>match s_508 with|(l_511,x_516)=>cond (decide (x_516<(e_441.length:Int))) ((idx e_441 x_516).bind λe_551=>cond (decide (x_296<e_551)) ((AT l_511 ([([x_296,e_551]:LI)]:LL)).bind λl_569=>some (.inl (l_569,(IntKind.i64.wrap (x_516+1))))) (some (.inl (l_511,(IntKind.i64.wrap (x_516+1)))))) (some (.inr l_511))) (l_291,0)).bind λl_544=>some (.inl (l_544,(IntKind.i64.wrap (x_296+1))))) (some (.inr l_291))))
  g.length (λs i=>(s,i)) (λs u=>rowF (row g u) u s) (λs=>s) (λi s=>s.length≤16*i) [] (by simp) (λs u hu hs=> ?_) (λs _=> ?_)
 ·exact congrArg (λz=>Option.bind z λl=>some l) key.1
 ·have hr:=hg.row_len hu
  obtain⟨k1,k2⟩:=inner_edges (row g u) u s (by omega) (step:=(fun(s_508:LL×Int)=>match s_508 with|(l_511,x_516)=>cond (decide (x_516<((row g u).length:Int))) ((idx (row g u) x_516).bind λe_551=>cond (decide ((u:Int)<e_551)) ((AT l_511 ([([(u:Int),e_551]:LI)]:LL)).bind λl_569=>some (.inl (l_569,(IntKind.i64.wrap (x_516+1))))) (some (.inl (l_511,(IntKind.i64.wrap (x_516+1)))))) (some (.inr l_511)))) (λs i hi=>by
    simp only[dlt hi,cond_true,Az hi,bs,wq i]) (λs=>by simp only[Bm,cond_false])
  refine⟨?_,by omega⟩
  simp only[dlt hu,cond_true,BY hu,bs,wq u]
  exact(congrArg (λz=>Option.bind z _) k1).trans rfl
 ·simp only[Bm,cond_false]
theorem GOk.sh2 {g:LL}(hg:GOk g):Sh2 g:=by
 have h16:=hg.n16
 exact⟨by unfold Sh;omega,λr hr=>by have:=(hg.mem0 hr).1;unfold Sh;omega⟩
theorem B7 {g:LL}(hg:GOk g):gB g=true:=(gB_iff g).2 hg
theorem Dr (g:LL)(hg:GOk g):D.a1 g=some ((edgesF g).length:Int):=by
 unfold D.a1 D.l1
 rw[BV g hg.sh2,B7 hg,bs,Bool.not_true,cond_false,E4 g hg];rfl
theorem nets_graph_eq (F:LI)(h:F.length≤16)(hV:∀u,u<F.length→VS (F.getD u 0)):D.i1 F=some (grow F):=by
 unfold D.i1
 refine(Em F (λs i=>(i,s)) Aq (by omega) (λs i hi _=> ?_) (λs=> ?_)).trans rfl
 ·have:=hV i hi
  rw[AA hi] at this
  simp only[dlt hi,cond_true,Az hi,bs,numbers_eq _ this,wq i]
 ·simp only[Bm,cond_false]
theorem OOk.sh {g:LL}{o:LI}(hg:GOk g)(ho:OOk g o):Sh o:=by
 have:=hg.n16;have:=ho.len;unfold Sh;omega
theorem Ds {g:LL}{o:LI}(hg:GOk g)(ho:OOk g o):D.L g o=some true:=by
 rw[E2 g o hg.sh2 (ho.sh hg),B7 hg,(ordB_iff g o).2 ho];rfl
structure Fill (g:LL)(o F L:LI):Prop where
 elim:D.m1 (g.map mk) o=some (F,L)
 f:FOk F g.length
 lenL:L.length=g.length
 vsL:∀u,u<g.length→VS (L.getD u 0)
 mono:∀u w,u<g.length→adj g u w→nb F u w=true
 lat:Lat F L o g.length
 peo:PEO F o
 same:PEO (g.map mk) o→F=g.map mk
 latb:∀(j:Nat) (v:Nat),o[j]? =some (v:Int)→∀w:Nat,nb L v w=true↔(w:Int)∉o.take (j+1)∧Bhd (g.map mk) (λx=>(x:Int)∈o.take j) v w
theorem Fill.FillOf {g:LL}{o F L:LI}(hg:GOk g)(ho:OOk g o)(h:Fill g o F L):D.f1 g o=some (grow F,true):=by
 have h16:=hg.n16
 unfold D.f1
 rw[Ds hg ho,bs,Bool.not_true,cond_false,Dm g hg,bs,narrow_eq o (ho.sh hg),bs,h.elim,bs,nets_graph_eq F (by rw[h.f.len];omega) (λu hu=>h.f.vs u (by rw[h.f.len] at hu;exact hu))]
 rfl
theorem Fill.gok {g:LL}{o F L:LI}(hg:GOk g)(h:Fill g o F L):GOk (grow F):=GOk.grow h.f hg.n1 hg.n16
theorem DS (g:LL)(hg:GOk g){u:Nat}(hu:u<g.length)(w:Int):D.r g (u:Int) w=some (decide (w∈row g u)):=by
 unfold D.r
 rw[BY hu,bs,CG _ _ (hg.sh2.row hu)];rfl
def AN (f:Nat→Nat):Nat→Nat
 |0=>0
 |n+1=>AN f n+f n
theorem AY {f g:Nat→Nat}:∀{n:Nat},(∀i,i<n→f i=g i)→AN f n=AN g n
 |0,_=>rfl
 |n+1,h=>by simp only[AN];rw[AY (n:=n) (λi hi=>h i (by omega)),h n (by omega)]
theorem Ee (f g:Nat→Nat):∀n,AN (λi=>f i+g i) n=AN f n+AN g n
 |0=>rfl
 |n+1=>by simp only[AN];rw[Ee f g n];omega
theorem BQ :∀n,AN (λ_=>0) n=0
 |0=>rfl
 |n+1=>by simp only[AN];rw[BQ n]
theorem EA (f:Nat→Nat→Nat)(m:Nat):∀n,AN (λi=>AN (f i) m) n=AN (λj=>AN (λi=>f i j) n) m
 |0=>by simp only[AN];rw[BQ]
 |n+1=>by simp only[AN];rw[EA f m n,←Ee]
def bit (b:Bool):Nat:=if b then 1 else 0
def S2 (n:Nat)(p:Nat→Nat→Bool):Nat:=AN (λu=>AN (λw=>bit (p u w)) n) n
def ast (f:Int→Int)(s:Int×Int)(v:Int):Int×Int:=if s.1<0∨f v<s.2 then(v,f v) else s
def amin (f:Int→Int)(l:LI):Int×Int:=l.foldl (ast f) (-1,0)
theorem ast_run (f:Int→Int):∀(l:LI) (b:Int),0≤b→(∀x∈l,0≤x)→∃c,l.foldl (ast f) (b,f b)=(c,f c)∧(c=b∨c∈l)∧0≤c∧f c≤f b∧∀x∈l,f c≤f x
 |[],b,hb,_=>⟨b,rfl,.inl rfl,hb,Int.le_refl _,by simp⟩
 |x::l,b,hb,hl=>by
  have hx:=hl x (by simp)
  have hl':=λy hy=>hl y (List.mem_cons_of_mem x hy)
  rw[List.foldl_cons]
  by_cases hc:f x<f b
  ·have e:ast f (b,f b) x=(x,f x):=by unfold ast;rw[if_pos (.inr hc)]
   rw[e]
   obtain⟨c,h1,h2,h3,h4,h5⟩:=ast_run f l x hx hl'
   refine⟨c,h1,.inr ?_,h3,by omega,λy hy=> ?_⟩
   ·rcases h2 with rfl|h2
    ·simp
    ·exact List.mem_cons_of_mem _ h2
   ·rcases List.mem_cons.1 hy with rfl|hy
    ·exact h4
    ·exact h5 y hy
  ·have e:ast f (b,f b) x=(b,f b):=by unfold ast;rw[if_neg (λh=>h.elim (λh=>by dsimp only at h;omega) hc)]
   rw[e]
   obtain⟨c,h1,h2,h3,h4,h5⟩:=ast_run f l b hb hl'
   refine⟨c,h1,?_,h3,h4,λy hy=> ?_⟩
   ·rcases h2 with h2|h2
    ·exact .inl h2
    ·exact .inr (List.mem_cons_of_mem _ h2)
   ·rcases List.mem_cons.1 hy with rfl|hy
    ·omega
    ·exact h5 y hy
theorem ast_first (f:Int→Int)(x:Int):ast f (-1,0) x=(x,f x):=by unfold ast;rw[if_pos (.inl (by decide))]
theorem amin_ok (f:Int→Int){l:LI}(hne:l≠[])(hl:∀x∈l,0≤x):∃c,amin f l=(c,f c)∧c∈l∧∀x∈l,f c≤f x:=by
 cases l with
 |nil=>exact absurd rfl hne
 |cons x l=>
  unfold amin
  rw[List.foldl_cons,ast_first]
  obtain⟨c,h1,h2,h3,h4,h5⟩:=ast_run f l x (hl x (by simp)) (λy hy=>hl y (List.mem_cons_of_mem _ hy))
  refine⟨c,h1,?_,λy hy=> ?_⟩
  ·rcases h2 with rfl|h2
   ·simp
   ·exact List.mem_cons_of_mem _ h2
  ·rcases List.mem_cons.1 hy with rfl|hy
   ·exact h4
   ·exact h5 y hy
def els (s:Int)(i:Nat):LI:=((List.range i).filter (has s)).map Int.ofNat
theorem els_all {s:Int}{n:Nat}(hn:n≤32)(h:∀v,has s v=true→v<n):els s n=Aq s:=by
 unfold els Aq
 obtain⟨k,hk⟩:∃k,32=n+k:=⟨32-n,by omega⟩
 rw[hk,List.range_add,List.filter_append]
 have:((List.range k).map (λx=>n+x)).filter (has s)=[]:=by
  rw[List.filter_eq_nil_iff]
  intro x hx hc
  obtain⟨y,_,rfl⟩:=List.mem_map.1 hx
  have:=h _ hc;omega
 rw[this,List.append_nil]
theorem elems_nonneg (s:Int):∀x∈Aq s,0≤x:=λx hx=>by
 obtain⟨v,_,_,rfl⟩:=mem_elems.1 hx;omega
def full (n:Nat):Int:=IntKind.u32.wrap (ishl .u32 1 (n:Int)-1)
theorem EP (n:Nat):VS (full n):=VS.wrap _
theorem DI {n:Nat}(h:n≤16)(v:Nat):has (full n) v=decide (v<n):=by
 by_cases hv:v<32
 ·exact all_mask ⟨n,by omega⟩ ⟨v,hv⟩
 ·rw[EN (EP n) (by omega)];symm;simp;omega
theorem Cx (F:LI):D.g F=some (full F.length):=by
 unfold D.g D.P0
 have:decide ((F.length:Int)<0)=false:=by simp
 rw[this];rfl
theorem l1There_eq {g:LL}(hg:GOk g){u:Nat}(hu:u<g.length):D.o g (u:Int)=some true:=by
 have:=hg.n16
 unfold D.o D.c
 simp only[bs,DD]
 rw[w64 (by omega) (by omega)]
 simp;omega
theorem Fill.many {g:LL}{o F L:LI}(hg:GOk g)(ho:OOk g o)(h:Fill g o F L):D.n1 g o=some (IntKind.i64.wrap (((edgesF (grow F)).length:Int)-((edgesF g).length:Int))):=by
 unfold D.n1
 rw[h.FillOf hg ho,bs]
 simp only[Bool.not_true,cond_false]
 rw[Dr _ (h.gok hg),bs,Dr _ hg]
 rfl
section
variable {g : LL} {o : LI} (hg : GOk g) (ho : OOk g o)
include hg ho
end
end Go.Sx

namespace Go.Sx
section
variable {g : LL} {o : LI} (hg : GOk g) (ho : OOk g o)
include hg ho
def mx (f:Nat→Int):Nat→Int
 |0=>0
 |n+1=>max (mx f n) (f n)
end
end Go.Sx

namespace Go.Sx
def dg (g:LL)(s:Int)(v:Int):Int:=((Aq (iand .u32 (mk (row g v.toNat)) s)).length:Int)
structure SQ (n:Nat)(s:Int)(k:Nat):Prop where
 vs:VS s
 lt:∀v,has s v=true→v<n
 card:(Aq s).length=k
theorem SQ.full {n:Nat}(h:n≤16):SQ n (full n) n:=by
 refine⟨EP n,λv hv=>by rw[DI h] at hv;exact of_decide_eq_true hv,?_⟩
 rw[←els_all (n:=n) (by omega) (λv hv=>by rw[DI h] at hv;exact of_decide_eq_true hv)]
 unfold els
 rw[List.length_map,List.filter_eq_self.2 (λv hv=>by rw[DI h];exact decide_eq_true (List.mem_range.1 hv)),List.length_range]
theorem SQ.ne {n k:Nat}{s:Int}(h:SQ n s (k+1)):Aq s≠[]:=λe=>by have:=h.card;rw[e] at this;simp at this
theorem SQ.z {n:Nat}{s:Int}(h:SQ n s 0):s=0:=by
 rw[h.vs.eq_zero]
 intro v hv
 cases hc:has s v
 ·rfl
 ·have:(v:Int)∈Aq s:=(AM h.vs).2 hc
  have h0:=h.card
  rw[List.length_eq_zero_iff] at h0
  rw[h0] at this;simp at this
theorem SQ.min {n k:Nat}{s:Int}(h:SQ n s (k+1))(f:Int→Int):∃c:Nat,c<n∧has s c=true∧amin f (Aq s)=((c:Int),f c)∧∀v:Nat,has s v=true→f c≤f v:=by
 obtain⟨c,h1,h2,h3⟩:=amin_ok f h.ne (elems_nonneg s)
 obtain⟨v,_,h5,rfl⟩:=mem_elems.1 h2
 exact⟨v,h.lt v h5,h5,h1,λw hw=>h3 w ((AM h.vs).2 hw)⟩
noncomputable def elimF (F:LI)(s b:Int):LI:=(D.r1 F s b).getD []
structure GQ (n i:Nat)(F o:LI)(s:Int):Prop where
 f:FOk F n
 left:SQ n s (n-i)
 len:o.length=i
 rng:∀x∈o,∃v:Nat,x=v∧v<n∧has s v=false
 nd:o.Nodup
def CQ (F:LI)(K:Int):Prop:=∀u w,has K u=true→has K w=true→u≠w→nb F u w=true
def MX (F:LI)(n:Nat)(K:Int):Prop:=CQ F K∧∀w,w<n→has K w=false→∃u,has K u=true∧nb F u w=false
def In (n:Nat)(K:Int):Prop:=VS K∧∀w,has K w=true→w<n
structure Tgt (F:LI)(n:Nat)(C O K:Int):Prop where
 ok:In n K
 mx:MX F n K
 sup:∀w,has C w=true→has K w=true
 sub:∀w,has K w=true→has C w=true∨has O w=true
theorem In.lt {n:Nat}{K:Int}(h:In n K)(hn:n≤16):0≤K∧K<65536:=by
 obtain⟨m,rfl,hm⟩:=h.1.nat
 refine⟨by omega,?_⟩
 have:m<2^16:=by
  apply Nat.lt_pow_two_of_testBit
  intro i hi
  cases hc:m.testBit i
  ·rfl
  ·have:=h.2 i (by rw[Bc];exact hc)
   omega
 omega
theorem masks_len {n:Nat}{l:LI}(hn:n≤16)(h:∀K∈l,In n K)(hd:l.Nodup):l.length≤65536:=by
 have:=Bq (m:=(List.range 65536).map Int.ofNat) hd (λK hK=>by
  have:=(h K hK).lt hn
  exact List.mem_map.2 ⟨K.toNat,List.mem_range.2 (by omega),by show ((K.toNat:Nat):Int)=K;omega⟩)
 simpa using this
structure BK (F:LI)(n:Nat)(C O S:Int):Prop where
 c:In n C
 o:In n O
 s:In n S
 cq:CQ F C
 cn:∀w,w<n→((has O w=true∨has S w=true)↔∀u,has C u=true→nb F u w=true)
 dis:∀w,has O w=true→has S w=false
theorem recFuel_33 :33≤CA:=by have:=EV;omega
theorem rise_nodup {k:Int→Int}{l:LI}(h:l.Pairwise (λa b=>k a<k b)):l.Nodup:=List.Pairwise.imp (λh e=>by subst e;omega) h
def Dw {α:Type}(b:LI)(P:α→Prop)(e:Option (α×LI×Int×Int)):Prop:=∃y,e=some y∧(P y.1∧y.2.1=b∧DK b y.2.2.1)
theorem Dw.then {α β:Type}{b:LI}{P:α→Prop}{e:Option (α×LI×Int×Int)}{k:α×LI×Int×Int→Option β}{Q:β→Prop}(h:Dw b P e)
  (hk:∀a i z,P a→DK b i→∃y,k (a,b,i,z)=some y∧Q y):∃y,e.bind k=some y∧Q y:=by
 obtain⟨⟨a,b',i,z⟩,rfl,h1,h2,h3⟩:=h
 dsimp only at h1 h2 h3
 subst h2
 exact hk a i z h1 h3
def Few (g:LL):Prop:=g.length≤17∧∀r∈g,r.length≤17
theorem Few.sh2 {g:LL}(h:Few g):Sh2 g:=⟨by have:=h.1;unfold Sh;omega,λr hr=>by have:=h.2 r hr;unfold Sh;omega⟩
theorem Few.set {g:LL}(h:Few g)(k:Nat){r:LI}(hr:r.length≤17):Few (g.set k r):=by
 refine⟨by have:=h.1;simpa using this,λx hx=> ?_⟩
 rcases List.mem_or_eq_of_mem_set hx with hx|rfl
 ·exact h.2 x hx
 ·exact hr
theorem elems_mk {n:Nat}{x:LI}(hn:n≤16)(hi:Inc x)(hr:∀z∈x,0≤z∧z<n):Aq (mk x)=x:=by
 have h32:∀z∈x,0≤z∧z<32:=λz hz=>by have:=hr z hz;omega
 refine Inc.ext (BD _) hi (λz=> ?_)
 rw[mem_elems]
 constructor
 ·rintro⟨v,_,h,rfl⟩
  rw[has_mk h32] at h
  exact of_decide_eq_true h
 ·intro hz
  have:=h32 z hz
  refine⟨z.toNat,by omega,?_,by omega⟩
  rw[has_mk h32,show ((z.toNat:Nat):Int)=z by omega]
  exact decide_eq_true hz
def Cq (g:LL)(x:LI):Prop:=∀u w:Nat,(u:Int)∈x→(w:Int)∈x→u≠w→adj g u w
structure Fin' (g:LL)(x:LI):Prop where
 inc:Inc x
 rng:∀z∈x,0≤z∧z<g.length
 cq:Cq g x
 mx:∀w,w<g.length→∃u:Nat,(u:Int)∈x∧¬adj g u w
def Sol (g:LL)(set left x:LI):Prop:=∃y,x=set++y∧(∀z∈y,z∈left)∧Fin' g x
structure SK (g:LL)(set left out:LI):Prop where
 inc:Inc (set++left)
 r1:∀z∈set++left,0≤z∧z<g.length
 r2:∀z∈out,0≤z∧z<g.length
 cq:Cq g set
 cn:∀w:Nat,w<g.length→(((w:Int)∈left∨(w:Int)∈out)↔∀u:Nat,(u:Int)∈set→adj g u w)
 len:out.length+left.length≤16
theorem inc_len {n:Nat}{x:LI}(hi:Inc x)(hr:∀z∈x,0≤z∧z<n):x.length≤n:=by
 have:=Bq (m:=(List.range n).map Int.ofNat) hi.nodup (λz hz=>by
  have:=hr z hz
  exact List.mem_map.2 ⟨z.toNat,List.mem_range.2 (by omega),by show ((z.toNat:Nat):Int)=z;omega⟩)
 simpa using this
theorem SK.next {g:LL}(hg:GOk g){set left out:LI}(h:SK g set left out){i v:Nat}(hi:i<left.length)(hv:left[i]=(v:Int)):
  SK g (set++[(v:Int)]) ((left.drop (i+1)).filter λx=>decide (x∈row g v)) ((out++left.take i).filter λx=>decide (x∈row g v))∧
  (∀x,Sol g (set++[(v:Int)]) ((left.drop (i+1)).filter λx=>decide (x∈row g v)) x↔∃y,x=set++(v:Int)::y∧(∀z∈y,z∈left)∧Fin' g x):=by
 have hvm:(v:Int)∈left:=by rw[←hv];exact List.getElem_mem hi
 have hvr:=h.r1 _ (List.mem_append.2 (.inr hvm))
 have hvn:v<g.length:=by omega
 have hinc:=List.pairwise_append.1 h.inc
 have hsplit:left=left.take i++(v:Int)::left.drop (i+1):=by
  rw[←hv,List.getElem_cons_drop,List.take_append_drop]
 have hdrop:∀z,z∈left.drop (i+1)↔z∈left∧(v:Int)<z:=λz=>by
  have h2:=hinc.2.1
  rw[hsplit] at h2
  have h3:=List.pairwise_append.1 h2
  have h4:=List.pairwise_cons.1 h3.2.1
  constructor
  ·intro hz
   exact⟨List.mem_of_mem_drop hz,h4.1 z hz⟩
  ·rintro⟨h5,h6⟩
   rw[hsplit] at h5
   rcases List.mem_append.1 h5 with h5|h5
   ·have:=h3.2.2 z h5 (v:Int) (by simp);omega
   ·rcases List.mem_cons.1 h5 with rfl|h5
    ·omega
    ·exact h5
 refine⟨⟨?_,?_,?_,?_,?_,?_⟩,λx=> ?_⟩
 ·rw[List.append_assoc]
  refine List.pairwise_append.2 ⟨hinc.1,?_,λa ha b hb=> ?_⟩
  ·rw[List.singleton_append]
   refine List.pairwise_cons.2 ⟨λz hz=>((hdrop z).1 (List.mem_filter.1 hz).1).2,?_⟩
   exact List.Pairwise.filter _ (List.Pairwise.sublist (List.drop_sublist _ _) hinc.2.1)
  ·refine hinc.2.2 a ha b ?_
   rw[List.singleton_append] at hb
   rcases List.mem_cons.1 hb with rfl|hb
   ·exact hvm
   ·exact((hdrop b).1 (List.mem_filter.1 hb).1).1
 ·intro z hz
  rcases List.mem_append.1 hz with hz|hz
  ·rcases List.mem_append.1 hz with hz|hz
   ·exact h.r1 z (List.mem_append.2 (.inl hz))
   ·simp at hz;subst hz;exact hvr
  ·exact h.r1 z (List.mem_append.2 (.inr ((hdrop z).1 (List.mem_filter.1 hz).1).1))
 ·intro z hz
  rcases List.mem_append.1 (List.mem_filter.1 hz).1 with hz|hz
  ·exact h.r2 z hz
  ·exact h.r1 z (List.mem_append.2 (.inr (List.mem_of_mem_take hz)))
 ·intro u w hu hw hne
  have key:∀a:Nat,(a:Int)∈set→adj g a v:=λa ha=>(h.cn v hvn).1 (.inl hvm) a ha
  rcases List.mem_append.1 hu with hu1|hu1<;>rcases List.mem_append.1 hw with hw1|hw1
  ·exact h.cq u w hu1 hw1 hne
  ·have e:w=v:=by simp at hw1;omega
   rw[e];exact key u hu1
  ·have e:u=v:=by simp at hu1;omega
   rw[e]
   have:=h.r1 _ (List.mem_append.2 (.inl hw1))
   exact hg.sym w v (by omega) (key w hw1)
  ·simp at hu1 hw1;omega
 ·intro w hw
  have h1:=h.cn w hw
  have hself:(w:Int)∈row g v→w≠v:=λha e=>by subst e;exact hg.irr w hw ha
  constructor
  ·intro hm u hu
   have hm':((w:Int)∈left∨(w:Int)∈out)∧(w:Int)∈row g v:=by
    rcases hm with hm|hm
    ·obtain⟨a1,a2⟩:=List.mem_filter.1 hm
     exact⟨.inl ((hdrop _).1 a1).1,of_decide_eq_true a2⟩
    ·obtain⟨a1,a2⟩:=List.mem_filter.1 hm
     refine⟨?_,of_decide_eq_true a2⟩
     rcases List.mem_append.1 a1 with a1|a1
     ·exact .inr a1
     ·exact .inl (List.mem_of_mem_take a1)
   rcases List.mem_append.1 hu with hu|hu
   ·exact h1.1 hm'.1 u hu
   ·have:u=v:=by simp at hu;omega
    subst this;exact hm'.2
  ·intro hA
   have hav:(w:Int)∈row g v:=hA v (by simp)
   have hne:=hself hav
   rcases h1.2 (λu hu=>hA u (List.mem_append.2 (.inl hu))) with hm|hm
   ·rw[hsplit] at hm
    rcases List.mem_append.1 hm with hm|hm
    ·exact .inr (List.mem_filter.2 ⟨List.mem_append.2 (.inr hm),decide_eq_true hav⟩)
    ·rcases List.mem_cons.1 hm with hm|hm
     ·omega
     ·exact .inl (List.mem_filter.2 ⟨hm,decide_eq_true hav⟩)
   ·exact .inr (List.mem_filter.2 ⟨List.mem_append.2 (.inl hm),decide_eq_true hav⟩)
 ·have a1:((left.drop (i+1)).filter λx=>decide (x∈row g v)).length≤(left.drop (i+1)).length:=List.length_filter_le _ _
  have a2:((out++left.take i).filter λx=>decide (x∈row g v)).length≤(out++left.take i).length:=List.length_filter_le _ _
  have:=h.len
  simp only[List.length_drop,List.length_append,List.length_take] at a1 a2
  omega
 ·constructor
  ·rintro⟨y,rfl,hy,hf⟩
   exact⟨y,by simp,λz hz=>((hdrop z).1 (List.mem_filter.1 (hy z hz)).1).1,hf⟩
  ·rintro⟨y,rfl,hy,hf⟩
   refine⟨y,by simp,λz hz=> ?_,hf⟩
   have hz2:=hf.rng z (by simp[hz])
   have h6:=(List.pairwise_cons.1 (List.pairwise_append.1 hf.inc).2.1).1 z hz
   refine List.mem_filter.2 ⟨(hdrop z).2 ⟨hy z hz,h6⟩,decide_eq_true ?_⟩
   have:=hf.cq v z.toNat (by simp) (by rw[show ((z.toNat:Nat):Int)=z by omega];simp[hz]) (by omega)
   unfold adj at this
   rwa [show ((z.toNat:Nat):Int)=z by omega] at this
structure GC (g:LL)(l:LI):Prop where
 up:l.Pairwise λa b=>lkey a<lkey b
 mem:∀K,K∈l↔In g.length K∧MX (g.map mk) g.length K
def mis (F:LI)(n:Nat)(S:Int):Nat:=S2 n (λu w=>has S u&&(has S w&&(decide (w<u)&& !nb F w u)))
def cd (F:LI)(s v:Int):Int:=((Aq (iand .u32 (F.getD v.toNat 0) s)).length:Int)
def cf (n:Nat)(F:LI)(s v:Int):Int:=(mis F n (iand .u32 (F.getD v.toNat 0) s):Int)
section
variable {g : LL} (hg : GOk g)
include hg
theorem OOk.shl {o:LI}(ho:OOk g o):Sh o:=ho.sh hg
end
end Go.Sx

namespace Go.Sx
def S16 (s:Int):Prop:=0≤s∧s<65536
theorem S16.vs {s:Int}(h:S16 s):VS s:=⟨h.1,by have:=h.2;omega⟩
theorem S16.nat {s:Int}(h:S16 s):∃n:Nat,s=n∧n<65536:=⟨s.toNat,by have:=h.1;omega,by have:=h.1;have:=h.2;omega⟩
theorem S16.lt {s:Int}(h:S16 s){v:Nat}(hv:has s v=true):v<16:=by
 obtain⟨n,rfl,hn⟩:=h.nat
 rw[Bc] at hv
 have:=Nat.ge_two_pow_of_testBit hv
 apply Classical.byContradiction
 intro hc
 have h2:2^16≤2^v:=Nat.pow_le_pow_right (by omega) (by omega)
 omega
theorem In.of {n i:Nat}(h:i<2^n)(hn:n≤16):In n (i:Int):=by
 have:2^n≤2^16:=Nat.pow_le_pow_right (by omega) hn
 refine⟨⟨by omega,by omega⟩,λw hw=> ?_⟩
 rw[Bc] at hw
 have:=Nat.ge_two_pow_of_testBit hw
 apply Classical.byContradiction
 intro hc
 have h2:2^n≤2^w:=Nat.pow_le_pow_right (by omega) (by omega)
 omega
theorem Ck (n:Nat)(h:n<18446744073709551616):(BitVec.ofInt 64 (n:Int)).toNat=n:=by
 rw[BitVec.toNat_ofInt];omega
theorem and64 {a b:Nat}(ha:a<4294967296)(hb:b<4294967296):iand .i64 (a:Int) (b:Int)=((a&&&b:Nat):Int):=by
 have hw:a&&&b<4294967296:=Nat.and_lt_two_pow (n:=32) _ hb
 show IntKind.i64.wrap (((BitVec.ofInt 64 (a:Int)&&&BitVec.ofInt 64 (b:Int)).toNat:Nat):Int)=_
 rw[BitVec.toNat_and,Ck a (by omega),Ck b (by omega),w64 (by omega) (by omega)]
theorem or64 {a b:Nat}(ha:a<4294967296)(hb:b<4294967296):ior .i64 (a:Int) (b:Int)=((a|||b:Nat):Int):=by
 have hw:a|||b<4294967296:=Nat.or_lt_two_pow (n:=32) ha hb
 show IntKind.i64.wrap (((BitVec.ofInt 64 (a:Int)|||BitVec.ofInt 64 (b:Int)).toNat:Nat):Int)=_
 rw[BitVec.toNat_or,Ck a (by omega),Ck b (by omega),w64 (by omega) (by omega)]
theorem and6432 {a b:Int}(ha:VS a)(hb:VS b):iand .i64 a b=iand .u32 a b:=by
 obtain⟨m,rfl,hm⟩:=ha.nat;obtain⟨n,rfl,hn⟩:=hb.nat
 rw[and64 hm hn,CX hm hn]
theorem or6432 {a b:Int}(ha:VS a)(hb:VS b):ior .i64 a b=ior .u32 a b:=by
 obtain⟨m,rfl,hm⟩:=ha.nat;obtain⟨n,rfl,hn⟩:=hb.nat
 rw[or64 hm hn,ior_nat hm hn]
theorem shl64 {v:Nat}(hv:v<32):ishl .i64 1 (v:Int)=ishl .u32 1 (v:Int):=by
 rw[one_eq hv]
 have h:(2:Nat)^v<2^32:=Nat.pow_lt_pow_right (by omega) hv
 have h':(2:Nat)^32=4294967296:=by decide
 rw[h'] at h
 show IntKind.i64.wrap (1*2^(min ((v:Int)).toNat 64))=_
 rw[show min ((v:Int)).toNat 64=v by simp;omega,Int.one_mul]
 have e:((2^v:Nat):Int)=(2:Int)^v:=by simp
 rw[←e]
 generalize 2^v=p at h ⊢
 rw[w64 (by omega) (by omega)]
theorem shr64 {s:Int}(h:VS s)(v:Nat)(hv:v<64):Bp .i64 s (v:Int)=((s.toNat>>>v:Nat):Int):=by
 obtain⟨m,rfl,hm⟩:=h.nat
 show Int.fdiv (m:Int) (2^(min ((v:Int)).toNat 64))=_
 rw[show min ((v:Int)).toNat 64=v by simp;omega]
 have e:((2^v:Nat):Int)=(2:Int)^v:=by simp
 rw[←e,Int.fdiv_eq_ediv_of_nonneg _ (Int.natCast_nonneg _),Nat.shiftRight_eq_div_pow]
 simp
theorem bit64 {s:Int}(h:VS s){v:Nat}(hv:v<64):(iand .i64 (Bp .i64 s (v:Int)) 1==1)=has s v:=by
 rw[shr64 h v hv]
 have hs:s.toNat>>>v<4294967296:=by
  obtain⟨m,rfl,hm⟩:=h.nat
  rw[Nat.shiftRight_eq_div_pow]
  exact Nat.lt_of_le_of_lt (Nat.div_le_self _ _) hm
 rw[show (1:Int)=((1:Nat):Int) from rfl,and64 hs (by omega),has,Nat.testBit]
 rw[Nat.and_comm]
 have h1:1&&&(s.toNat>>>v)=0∨1&&&(s.toNat>>>v)=1:=by
  rw[Nat.and_comm,Nat.and_one_is_mod];omega
 rcases h1 with e|e<;>rw[e]<;>rfl
theorem uw {v:Nat}(hv:v<1000):IntKind.u64.wrap (v:Int)=(v:Int):=wu64 (by omega) (by omega)
theorem unneg (v:Nat):decide ((v:Int)<0)=false:=by simp
theorem l25Bits_eq {g:LL}(hg:GOk g):D.D0 g=some (g.map mk):=by
 have h16:=hg.n16
 unfold D.D0
 refine(Co (λi=>((g.take i).map mk,(i:Int))) g.length (g.map mk) (by simp) (λi hi=> ?_) ?_).trans rfl
 ·have hr:=hg.row_len hi
  simp only[dlt hi,cond_true]
  refine(Co (λk=>(mk ((row g i).take k),(k:Int))) (row g i).length (mk (row g i)) (by simp[mk]) (λk hk=> ?_) ?_).trans ?_
  ·obtain⟨w,e1,hw,_⟩:=hg.mem hi (List.getElem_mem hk)
   simp only[BY hi,bs,dlt hk,cond_true,Az hk,e1,uw (show w<1000 by omega),unneg,cond_false,wq k]
   rw[shl64 (show w<32 by omega),or6432 (VS.mk _) (VS.ishl _ _)]
   have:mk ((row g i).take (k+1))=ior .u32 (mk ((row g i).take k)) (ishl .u32 1 (w:Int)):=by
    unfold mk
    rw[List.take_succ_eq_append_getElem hk,List.foldl_append,e1];rfl
   rw[this]
  ·simp only[BY hi,bs,Bm,cond_false,List.take_length]
  ·rw[Bk (by simp;omega),bs,wq i,List.take_succ_eq_append_getElem hi,List.map_append,←row_eq hi];rfl
 ·simp only[Bm,cond_false,List.take_length]
theorem DM {n:Nat}(hn:n≤16):full n=((2^n-1:Nat):Int):=by
 have key:∀k:Fin 17,full k.val=((2^k.val-1:Nat):Int):=by decide+kernel
 exact key ⟨n,by omega⟩
theorem l25All_eq {g:LL}(hg:GOk g):D.m0 g=some (full g.length):=by
 have h16:=hg.n16
 unfold D.m0
 rw[uw (by omega),unneg,cond_false,shl64 (by omega),one_eq (by omega),DM h16]
 have h:(2:Nat)^g.length≤2^16:=Nat.pow_le_pow_right (by omega) h16
 have h0:0<(2:Nat)^g.length:=Nat.pow_pos (by omega)
 rw[w64 (by omega) (by omega)]
 congr 1;omega
theorem lowbits64 {s:Int}(h:VS s)(h0:s≠0):iand .i64 s (IntKind.i64.wrap (s-1))=iand .u32 s (IntKind.u32.wrap (s-1)):=by
 obtain⟨m,rfl,hm⟩:=h.nat
 have hm0:m≠0:=by omega
 have e1:IntKind.i64.wrap ((m:Int)-1)=((m-1:Nat):Int):=by rw[w64 (by omega) (by omega)];omega
 have e2:IntKind.u32.wrap ((m:Int)-1)=((m-1:Nat):Int):=by rw[Da];omega
 rw[e1,e2,and64 hm (by omega),CX hm (by omega)]
theorem DZ {s:Int}(h:VS s){v:Nat}(hv:v<32):D.k s (v:Int)=some (has s v):=by
 unfold D.k
 have:decide ((v:Int)<0)=false:=by simp
 rw[this,cond_false,bitAt_eq h hv]
theorem spec_SetOk_eq (g:LL)(s:LI)(h:Sh2 g)(hs:Sh s):D.I0 g s=some (gB g&&Db s g.length):=by
 unfold D.I0 D.c
 rw[Ca g h,bs]
 cases gB g
 ·rfl
 ·have:=h.1
  unfold Sh at this
  rw[cond_true,bs,l1Set_eq s _ hs (by omega) (by omega)];rfl
theorem setB_elems {n:Nat}{K:Int}(h:In n K):Db (Aq K) n=true:=by
 rw[CY]
 refine⟨BD _,λz hz=> ?_⟩
 obtain⟨v,_,h2,rfl⟩:=mem_elems.1 hz
 have:=h.2 v h2
 omega
def ch (cs:LI)(i v:Nat):Bool:=has (cs.getD i 0) v
def Opn (cs:LI)(p:Int)(v:Nat):Prop:=(∃i,i<cs.length∧has p i=true∧ch cs i v=true)∧∃i,i<cs.length∧has p i=false∧ch cs i v=true
def Ft (cs:LI)(p:Int)(k:Nat):Prop:=k<cs.length∧has p k=false∧∀v,Opn cs p v→ch cs k v=true
inductive Ends (cs:LI):Int→Prop
 |all {p:Int}:(∀i,i<cs.length→has p i=true)→Ends cs p
 |go {p:Int} {k:Nat}:Ft cs p k→Ends cs (ior .u32 p (ishl .u32 1 (k:Int)))→Ends cs p
def Goes (cs:LI):Int→LI→Prop
 |p,[]=>∀i,i<cs.length→has p i=true
 |p,x::l=>∃k:Nat,x=(k:Int)∧Ft cs p k∧Goes cs (ior .u32 p (ishl .u32 1 (k:Int))) l
section
variable {cs : LI} (hvs : ∀ s ∈ cs, VS s) (hm : cs.length ≤ 16)
include hvs hm
theorem Ft.in {p:Int}{k:Nat}(hp:In cs.length p)(h:Ft cs p k):In cs.length (ior .u32 p (ishl .u32 1 (k:Int)))∧∀v,has (ior .u32 p (ishl .u32 1 (k:Int))) v=(has p v||decide (v=k)):=by
 have hk:=h.1
 have he:∀v,has (ior .u32 p (ishl .u32 1 (k:Int))) v=(has p v||decide (v=k)):=λv=>by
  rw[B9 hp.1 (VS.ishl _ _),Bx (by omega)]
 refine⟨⟨VS.ior _ _,λv hv=> ?_⟩,he⟩
 rw[he,Bool.or_eq_true,decide_eq_true_eq] at hv
 rcases hv with hv|rfl
 ·exact hp.2 v hv
 ·exact hk
end
end Go.Sx

namespace Go.Sx
theorem Goes.mid {cs:LI}{v:Nat}:∀{l1:LI} {p:Int} {x:Nat} {l2:LI},cs.length≤16→In cs.length p→Goes cs p (l1++(x:Int)::l2)→((∃i,i<cs.length∧has p i=true∧ch cs i v=true)∨∃y:Nat,(y:Int)∈l1∧ch cs y v=true)→(∃z:Nat,(z:Int)∈l2∧ch cs z v=true)→ch cs x v=true
 |[],p,x,l2,hm,hp,⟨k,e,hF,hG⟩,h1,⟨z,hz,hzv⟩=>by
  obtain rfl:k=x:=by omega
  refine hF.2.2 v ⟨h1.elim id (fun⟨y,hy,_⟩=>by simp at hy),?_⟩
  have:∀(l:LI) (q:Int),In cs.length q→Goes cs q l→(z:Int)∈l→z<cs.length∧has q z=false:=by
   intro l
   induction l with
   |nil=>intro q _ _ h;simp at h
   |cons y l ih=>
    rintro q hq ⟨k',e',hF',hG'⟩ hzl
    rcases List.mem_cons.1 hzl with h|h
    ·obtain rfl:k'=z:=by omega
     exact⟨hF'.1,hF'.2.1⟩
    ·have hk':=hF'.1
     have he:∀w,has (ior .u32 q (ishl .u32 1 (k':Int))) w=(has q w||decide (w=k')):=λw=>by rw[B9 hq.1 (VS.ishl _ _),Bx (by omega)]
     have hin:In cs.length (ior .u32 q (ishl .u32 1 (k':Int))):=⟨VS.ior _ _,λw hw=>by
      rw[he,Bool.or_eq_true,decide_eq_true_eq] at hw
      rcases hw with hw|rfl
      ·exact hq.2 w hw
      ·exact hk'⟩
     obtain⟨a,b⟩:=ih _ hin hG' h
     rw[he,Bool.or_eq_false_iff] at b
     exact⟨a,b.1⟩
  obtain⟨h3,h4⟩:=this ((k:Int)::l2) p hp ⟨k,rfl,hF,hG⟩ (List.mem_cons_of_mem _ hz)
  exact⟨z,h3,h4,hzv⟩
 |y::l1,p,x,l2,hm,hp,⟨k,e,hF,hG⟩,h1,h2=>by
  subst e
  have hk:=hF.1
  have he:∀w,has (ior .u32 p (ishl .u32 1 (k:Int))) w=(has p w||decide (w=k)):=λw=>by rw[B9 hp.1 (VS.ishl _ _),Bx (by omega)]
  refine Goes.mid (l1:=l1) hm ⟨VS.ior _ _,λw hw=> ?_⟩ hG ?_ h2
  ·rw[he,Bool.or_eq_true,decide_eq_true_eq] at hw
   rcases hw with hw|rfl
   ·exact hp.2 w hw
   ·exact hk
  ·rcases h1 with⟨i,h3,h4,h5⟩|⟨i,h3,h5⟩
   ·exact .inl ⟨i,h3,by rw[he,h4];rfl,h5⟩
   ·rcases List.mem_cons.1 h3 with h|h
    ·obtain rfl:i=k:=by omega
     exact .inl ⟨i,hk,by rw[he];simp,h5⟩
    ·exact .inr ⟨i,h,h5⟩
section
variable {g : LL} (hg : GOk g)
include hg
end
end Go.Sx

namespace Go.Sx
structure Iv (g:LL)(L R:Nat→Int):Prop where
 le:∀v,v<g.length→L v≤R v
 ad:∀u v,u<g.length→v<g.length→(adj g u v↔u≠v∧L u≤R v∧L v≤R u)
section
variable {g : LL} (hg : GOk g)
include hg
variable {L R : Nat → Int} (hI : Iv g L R)
include hI
end
end Go.Sx

namespace Go.Sx
theorem nat_or_add {n k:Nat}(hn:n<65536)(hk:k<16)(h:n.testBit k=false):n+2^k=n|||2^k:=by
 have hp:2^k<65536:=Nat.lt_of_lt_of_le (Nat.pow_lt_pow_right (by omega) hk) (by omega)
 have h0:BitVec.ofNat 32 n&&&BitVec.ofNat 32 (2^k)=0#32:=by
  apply BitVec.eq_of_toNat_eq
  simp only[BitVec.toNat_and,BitVec.toNat_ofNat]
  rw[Nat.mod_eq_of_lt (by omega),Nat.mod_eq_of_lt (by omega)]
  apply Nat.eq_of_testBit_eq
  intro i
  rw[Nat.testBit_and,Nat.testBit_two_pow]
  by_cases hi:k=i
  ·subst hi;simp[h]
  ·simp[hi]
 have e:=congrArg BitVec.toNat (BitVec.add_eq_or_of_and_eq_zero _ _ h0)
 simp only[BitVec.toNat_add,BitVec.toNat_or,BitVec.toNat_ofNat] at e
 rw[Nat.mod_eq_of_lt (show n<2^32 by omega),Nat.mod_eq_of_lt (show 2^k<2^32 by omega),Nat.mod_eq_of_lt (by omega)] at e
 exact e
structure Un (cs:LI)(m:Nat)(U:LI):Prop where
 len:U.length=2^m
 vs:∀b,b<2^m→VS (U.getD b 0)
 hs:∀b,b<2^m→∀v,has (U.getD b 0) v=true↔∃i,i<m∧b.testBit i=true∧ch cs i v=true
theorem pow16 {m:Nat}(hm:m≤16):2^m≤65536:=Nat.le_trans (Nat.pow_le_pow_right (by omega) hm) (by omega)
section
variable {cs U : LI} (hs : ∀ s ∈ cs, VS s) (hm : cs.length ≤ 16) (hU : Un cs cs.length U)
include hs hm hU
end
end Go.Sx

namespace Go.Sx
inductive Goes2 (A:Nat→Nat→Prop)(n:Nat)(L:Nat→Prop):Nat→Nat→Prop
 |fin {v:Nat}:L v→Goes2 A n L (2^n-1) v
 |step {s v u:Nat}:s.testBit v=true→A v u→s.testBit u=false→u<n→Goes2 A n L (s|||2^u) u→Goes2 A n L s v
theorem EH {n s u:Nat}(hn:n≤16)(hs:s<2^n)(hu:u<n):ior .u32 (s:Int) (ishl .u32 1 (u:Int))=((s|||2^u:Nat):Int):=by
 have h1:=In.of hs hn
 have hlt:s|||2^u<2^n:=Nat.or_lt_two_pow hs (Nat.pow_lt_pow_right (by omega) hu)
 refine(VS.ior _ _).ext (In.of hlt hn).1 (λv _=> ?_)
 rw[B9 h1.1 (VS.ishl _ _),Bx (by omega),Bc,Bc,Nat.testBit_or,Nat.testBit_two_pow]
 congr 1
 rw[Bool.eq_iff_iff,decide_eq_true_eq,decide_eq_true_eq]
 exact⟨λh=>h.symm,λh=>h.symm⟩
theorem CJ {n s u:Nat}(hs:s<2^n)(hu:u<n):s|||2^u<2^n:=Nat.or_lt_two_pow hs (Nat.pow_lt_pow_right (by omega) hu)
theorem CH {n s u:Nat}(hn:n≤16)(hs:s<2^n)(hu:u<n)(h:s.testBit u=false):s<s|||2^u:=by
 have:=pow16 hn
 rw[←nat_or_add (by omega) (by omega) h]
 have:=Nat.two_pow_pos u
 omega
theorem bit_full {n s:Nat}(hs:s<2^n)(h:s≠2^n-1):∃u,u<n∧s.testBit u=false:=by
 apply Classical.byContradiction
 intro hc
 have hall:∀u,u<n→s.testBit u=true:=λu hu=>by
  cases hb:s.testBit u
  ·exact absurd ⟨u,hu,hb⟩ hc
  ·rfl
 apply h
 apply Nat.eq_of_testBit_eq
 intro i
 rw[Nat.testBit_two_pow_sub_one]
 by_cases hi:i<n
 ·rw[hall i hi,decide_eq_true hi]
 ·rw[decide_eq_false hi,Nat.testBit_lt_two_pow (Nat.lt_of_lt_of_le hs (Nat.pow_le_pow_right (by omega) (by omega)))]
theorem Goes2.inv {A:Nat→Nat→Prop}{n:Nat}{L:Nat→Prop}{s v:Nat}(h:Goes2 A n L s v):(s=2^n-1∧L v)∨(s.testBit v=true∧∃u,A v u∧s.testBit u=false∧u<n∧Goes2 A n L (s|||2^u) u):=by
 cases h with
 |fin h=>exact .inl ⟨rfl,h⟩
 |step a b c d e=>exact .inr ⟨a,_,b,c,d,e⟩
theorem EL {n u:Nat}(hu:u<n):(2^n-1).testBit u=true:=by rw[Nat.testBit_two_pow_sub_one,decide_eq_true hu]
section
variable {F : LI} {n : Nat} (hF : FOk F n) (h1 : 1 ≤ n) (h16 : n ≤ 16) {L : Int} (hL : VS L)
abbrev GoF (F:LI)(n:Nat)(L:Int)(s v:Nat):Prop:=Goes2 (λa b=>nb F a b=true) n (λv=>has L v=true) s v
include hF h1 h16 hL
theorem endings_ok :∃E,D.P F L=some E∧(E.length=2^n∧(∀s,s<2^n→VS (E.getD s 0))∧∀s v,0<s→s<2^n→(has (E.getD s 0) v=true↔GoF F n L s v)):=by
 have hp:=pow16 h16
 have hp2:2≤2^n:=by
  have:2^1≤2^n:=Nat.pow_le_pow_right (by omega) h1
  omega
 have hlen:=hF.len
 unfold D.P
 rw[Cx,hlen,bs,DM h16]
 have e1:IntKind.u32.wrap (((2^n-1:Nat):Int)+1)=((2^n:Nat):Int):=by
  rw[show (((2^n-1:Nat):Int)+1)=((2^n:Nat):Int) by omega,EJ (by omega)]
 have e2:IntKind.i64.wrap (IntKind.i64.wrap ((2^n-1:Nat):Int)-1)=((2^n-2:Nat):Int):=by
  rw[w64 (x:=((2^n-1:Nat):Int)) (by omega) (by omega),w64 (by omega) (by omega)];omega
 rw[e1,e2,Ej (by omega) (by omega),bs,Az (show 2^n-1<(List.replicate (2^n) (0:Int)).length by simp;omega),bs,Int.toNat_natCast]
 have hz:∀j,(List.replicate (2^n) (0:Int)).getD j 0=0:=λj=>by
  rw[List.getD_eq_getElem?_getD,List.getElem?_replicate];split<;>rfl
 refine AS (λs:LI×Int=>∃k:Nat,s.2=(k:Int)∧k<2^n-1∧s.1.length=2^n∧(∀j,j<2^n→VS (s.1.getD j 0))∧(∀j,j≤k→s.1.getD j 0=0)∧∀j v,k<j→j<2^n→(has (s.1.getD j 0) v=true↔GoF F n L j v)) (λs=>s.2.toNat)
  (λE:LI=>E.length=2^n∧(∀s,s<2^n→VS (E.getD s 0))∧∀s v,0<s→s<2^n→(has (E.getD s 0) v=true↔GoF F n L s v)) ?_ ⟨2^n-2,rfl,by omega,by simp,λj hj=> ?_,λj hj=> ?_,λj v hj hj2=> ?_⟩ (λr hr=>⟨r,rfl,hr⟩)
 ·rintro⟨l,_⟩ ⟨k,rfl,hk,hl,hv,h0,hG⟩
  dsimp only at hl hv h0 hG ⊢
  by_cases hk0:0<k
  ·have hkn:k<2^n:=by omega
   have hIn:=In.of hkn h16
   have hkw:IntKind.u32.wrap (k:Int)=(k:Int):=EJ (by omega)
   have hel:=Cd (k:Int)
   rw[decide_eq_true (show (0:Int)<(k:Int) by omega),cond_true,hkw,C1 _ hIn.1,bs]
   refine AS (λs:LI×Int=>∃i:Nat,s.2=(i:Int)∧i≤(Aq (k:Int)).length∧s.1.length=2^n∧(∀j,j<2^n→VS (s.1.getD j 0))∧(∀j,j≠k→s.1.getD j 0=l.getD j 0)∧∀v:Nat,has (s.1.getD k 0) v=true↔(v:Int)∈(Aq (k:Int)).take i∧GoF F n L k v) (λs=>(Aq (k:Int)).length-s.2.toNat)
    (λr:LI=>r.length=2^n∧(∀j,j<2^n→VS (r.getD j 0))∧(∀j,j≠k→r.getD j 0=l.getD j 0)∧∀v:Nat,has (r.getD k 0) v=true↔GoF F n L k v) ?_ ⟨0,rfl,Nat.zero_le _,hl,hv,λ_ _=>rfl,λv=>by rw[h0 k (Nat.le_refl _),BE];simp⟩ ?_
   ·rintro⟨m,_⟩ ⟨i,rfl,hi,hml,hmv,hmo,hmk⟩
    dsimp only at hml hmv hmo hmk ⊢
    by_cases hil:i<(Aq (k:Int)).length
    ·obtain⟨v,_,hkv,ev⟩:=mem_elems.1 (List.getElem_mem hil)
     have hvn:=hIn.2 v hkv
     have hkv':k.testBit v=true:=by rw[←Bc];exact hkv
     have iF:idx F (v:Int)=some (F.getD v 0):=by rw[Az (show v<F.length by omega),AA]
     let us:=Aq (iandNot .u32 (F.getD v 0) (k:Int))
     have hus:us=Aq (iandNot .u32 (F.getD v 0) (k:Int)):=rfl
     have hul:=Cd (iandNot .u32 (F.getD v 0) (k:Int))
     have hum:∀u:Nat,(u:Int)∈us↔nb F v u=true∧k.testBit u=false:=λu=>by
      rw[hus,AM (VS.iandNot _ _),BJ (hF.vs v hvn) hIn.1,Bc,Bool.and_eq_true,Bool.not_eq_true']
      rfl
     have htake:∀w:Nat,(w:Int)∈(Aq (k:Int)).take (i+1)↔(w:Int)∈(Aq (k:Int)).take i∨w=v:=λw=>by
      rw[List.take_succ_eq_append_getElem hil,List.mem_append,ev]
      simp[Int.natCast_inj]
     rw[dlt hil,cond_true,Az hil,ev,bs,iF,bs,C1 _ (VS.iandNot _ _),bs]
     refine AS (λs:Int=>∃t:Nat,s=(t:Int)∧t≤us.length∧∀q (hq:q<us.length),q<t→∀u:Nat,us[q]=(u:Int)→¬GoF F n L (k|||2^u) u) (λs=>us.length-s.toNat)
      (λr:LI=>r.length=2^n∧(∀j,j<2^n→VS (r.getD j 0))∧(∀j,j≠k→r.getD j 0=l.getD j 0)∧∀w:Nat,has (r.getD k 0) w=true↔(w:Int)∈(Aq (k:Int)).take (i+1)∧GoF F n L k w) ?_ ⟨0,rfl,Nat.zero_le _,λq _ h=>absurd h (Nat.not_lt_zero _)⟩ ?_
     ·rintro _ ⟨t,rfl,ht,hno⟩
      by_cases htl:t<us.length
      ·obtain⟨u,_,hu,eu⟩:=mem_elems.1 (List.getElem_mem htl)
       have huu:=(hum u).1 (by rw[←eu];exact List.getElem_mem htl)
       have hun:=hF.lt v u hvn huu.1
       have hor:=CJ hkn hun
       have hgt:=CH h16 hkn hun huu.2
       have iE:idx m ((k|||2^u:Nat):Int)=some (l.getD (k|||2^u) 0):=by
        rw[Az (by omega),←hmo _ (by omega),AA]
       have htl':t<(Aq (iandNot .u32 (F.getD v 0) (k:Int))).length:=htl
       rw[show decide ((t:Int)<((Aq (iandNot .u32 (F.getD v 0) (k:Int))).length:Int))=true from dlt htl',cond_true,Az htl',show (Aq (iandNot .u32 (F.getD v 0) (k:Int)))[t]=(u:Int) from eu,bs,BT,bs,EH h16 hkn hun,iE,bs,DZ (hv _ hor) (by omega),bs]
       cases hb:has (l.getD (k|||2^u) 0) u
       ·rw[cond_false,wi (by omega)]
        refine⟨_,rfl,⟨t+1,rfl,htl,λq hq hqt u' eu'=> ?_⟩,by dsimp only;omega⟩
        by_cases h:q=t
        ·subst h
         have:u=u':=by rw[eu] at eu';omega
         subst this
         intro hg
         rw[(hG _ u hgt hor).2 hg] at hb;cases hb
        ·exact hno q hq (by omega) u' eu'
       ·have hgo:=(hG _ u hgt hor).1 hb
        have hkm:k<m.length:=by omega
        have iK:idx m (k:Int)=some (m.getD k 0):=by rw[Az hkm,AA]
        rw[cond_true,iK,bs,BT,bs,bs,Int.toNat_natCast]
        refine⟨_,rfl,by simp[hml],λj hj=> ?_,λj hj=> ?_,λw=> ?_⟩
        ·rw[Cu _ _ _ _ hkm]
         split
         ·exact VS.ior _ _
         ·exact hmv j hj
        ·rw[Cu _ _ _ _ hkm,if_neg hj];exact hmo j hj
        ·rw[Cu _ _ _ _ hkm,if_pos rfl,B9 (hmv k hkn) (VS.ishl _ _),Bx (by omega),Bool.or_eq_true,hmk,htake,decide_eq_true_eq]
         constructor
         ·rintro(⟨a,b⟩|rfl)
          ·exact⟨.inl a,b⟩
          ·exact⟨.inr rfl,.step hkv' huu.1 huu.2 hun hgo⟩
         ·rintro⟨a|a,b⟩
          ·exact .inl ⟨a,b⟩
          ·exact .inr a
      ·obtain rfl:t=us.length:=by omega
       rw[show decide (((us.length:Nat):Int)<((Aq (iandNot .u32 (F.getD v 0) (k:Int))).length:Int))=false from Bm,cond_false]
       refine⟨_,rfl,hml,hmv,hmo,λw=> ?_⟩
       rw[hmk,htake]
       constructor
       ·rintro⟨a,b⟩;exact⟨.inl a,b⟩
       ·rintro⟨a|rfl,b⟩
        ·exact⟨a,b⟩
        ·exfalso
         rcases b.inv with⟨b,_⟩|⟨_,u,b1,b2,b3,b4⟩
         ·omega
         ·obtain⟨q,hq,eq⟩:=List.getElem_of_mem ((hum u).2 ⟨b1,b2⟩)
          exact hno q hq hq u eq b4
     ·rintro r ⟨r1,r2,r3,r4⟩
      rw[wi (by omega)]
      exact⟨_,rfl,⟨i+1,rfl,hil,r1,r2,r3,r4⟩,by dsimp only;omega⟩
    ·obtain rfl:i=(Aq (k:Int)).length:=by omega
     rw[Bm,cond_false]
     refine⟨_,rfl,hml,hmv,hmo,λv=> ?_⟩
     rw[hmk,List.take_length]
     refine⟨λh=>h.2,λh=>⟨?_,h⟩⟩
     rcases h.inv with⟨b,_⟩|⟨b,_⟩
     ·omega
     ·rw[AM hIn.1,Bc];exact b
   ·rintro r ⟨r1,r2,r3,r4⟩
    have hw:IntKind.i64.wrap ((k:Int)-1)=((k-1:Nat):Int):=by rw[w64 (by omega) (by omega)];omega
    rw[hw]
    refine⟨_,rfl,⟨k-1,rfl,by omega,r1,r2,λj hj=> ?_,λj v hj hj2=> ?_⟩,by dsimp only;omega⟩
    ·dsimp only
     rw[r3 j (by omega)];exact h0 j (by omega)
    ·dsimp only
     by_cases h:j=k
     ·subst h;exact r4 v
     ·rw[r3 j h];exact hG j v (by omega) hj2
  ·obtain rfl:k=0:=by omega
   rw[decide_eq_false (show¬(0:Int)<((0:Nat):Int) by omega),cond_false]
   exact⟨_,rfl,hl,hv,λs v hs hs2=>hG s v hs hs2⟩
 ·dsimp only
  rw[Cu _ _ _ _ (by simp;omega)]
  split
  ·exact hL
  ·rw[hz];exact VS.zero
 ·dsimp only
  rw[Cu _ _ _ _ (by simp;omega),if_neg (by omega),hz]
 ·dsimp only
  obtain rfl:j=2^n-1:=by omega
  rw[Cu _ _ _ _ (by simp;omega),if_pos rfl]
  refine⟨λh=> .fin h,λh=> ?_⟩
  rcases h.inv with⟨_,b⟩|⟨_,u,_,b2,b3,_⟩
  ·exact b
  ·rw[EL b3] at b2;cases b2
end
end Go.Sx

namespace Go.Sx
noncomputable def ef (g:LL)(o:LI):Nat→LI×LI×Int
 |0=>(g.map mk,List.replicate g.length 0,full g.length)
 |i+1=>(elimF (ef g o i).1 (ef g o i).2.2 (o.getD i 0),(ef g o i).2.1.set (o.getD i 0).toNat (iand .u32 ((ef g o i).1.getD (o.getD i 0).toNat 0) (iandNot .u32 (ef g o i).2.2 (ishl .u32 1 (o.getD i 0)))),
   iandNot .u32 (ef g o i).2.2 (ishl .u32 1 (o.getD i 0)))
section
variable {g : LL} {o : LI} (hg : GOk g) (ho : OOk g o)
include hg ho
end
end Go.Sx

namespace Go.Sx
structure Net (A:LI)(n:Nat):Prop where
 len:A.length=n
 vs:∀u,u<n→VS (A.getD u 0)
 lt:∀u w,u<n→nb A u w=true→w<n
theorem FOk.net {A:LI}{n:Nat}(h:FOk A n):Net A n:=⟨h.len,h.vs,h.lt⟩
structure Rch (A:LI)(W:Int)(v:Nat)(S:Int):Prop where
 vs:VS S
 me:has S v=true
 step:∀x y,has S x=true→nb A x y=true→has W y=true→has S y=true
 least:∀T:Nat→Prop,T v→(∀x y,T x→nb A x y=true→has W y=true→T y)→∀x,has S x=true→T x
theorem reach_ok {A:LI}{n:Nat}(hn:n≤16)(hA:Net A n){v:Nat}(hv:v<n){W:Int}(hW:VS W):∃S,D.V A (v:Int) W=some S∧Rch A W v S∧∀x,has S x=true→x<n:=by
 unfold D.V
 rw[BT,bs]
 refine AS (λS=>VS S∧has S v=true∧(∀x,has S x=true→x<n)∧∀T:Nat→Prop,T v→(∀x y,T x→nb A x y=true→has W y=true→T y)→∀x,has S x=true→T x) (λS=>n-(Aq S).length)
  (λS=>Rch A W v S∧∀x,has S x=true→x<n) ?_ ?_ (λr hr=>⟨r,rfl,hr⟩)
 ·rintro S ⟨hS,hv',hlt,hT⟩
  have hle:=Cd S
  simp only[C1 S hS,bs]
  have hin:=AS (step:=(fun(s_223:Int×Int)=>match s_223 with|(x_226,x_227)=>cond (decide (x_227<((Aq S).length:Int))) ((idx (Aq S) x_227).bind λe_246=>(idx A e_246).bind λe_252=>some (.inl ((ior .u32 x_226 (iand .u32 e_252 W)),(IntKind.i64.wrap (x_227+1))))) (some (.inr x_226)))) (s:=(S,0)) (k:=λr=>some r) (Q:=λX:Int=>VS X∧∀y,has X y=true↔has S y=true∨∃u:Nat,has S u=true∧nb A u y=true∧has W y=true)
   (λs=>∃k:Nat,s.2=(k:Int)∧k≤(Aq S).length∧VS s.1∧∀y,has s.1 y=true↔has S y=true∨∃u:Nat,(u:Int)∈(Aq S).take k∧nb A u y=true∧has W y=true) (λs=>(Aq S).length-s.2.toNat) (λX=>VS X∧∀y,has X y=true↔has S y=true∨∃u:Nat,has S u=true∧nb A u y=true∧has W y=true)
   ?_ ⟨0,rfl,by omega,hS,λy=>by simp⟩ (λr hr=>⟨r,rfl,hr⟩)
  ·obtain⟨X,hX,hX1,hX2⟩:=hin
   rw[Option.bind_eq_some_iff] at hX
   obtain⟨z,e1,e2⟩:=hX
   cases e2
   rw[e1,bs]
   by_cases hc:X=S
   ·subst hc
    simp only[beq_self_eq_true,cond_true]
    refine⟨_,rfl,⟨hS,hv',λx y h1 h2 h3=>(hX2 y).2 (.inr ⟨x,h1,h2,h3⟩),hT⟩,hlt⟩
   ·have e3:(X==S)=false:=by simpa using hc
    simp only[e3,cond_false]
    have hXlt:∀x,has X x=true→x<n:=λx hx=>by
     rcases(hX2 x).1 hx with h|⟨u,h1,h2,_⟩
     ·exact hlt x h
     ·exact hA.lt u x (hlt u h1) h2
    refine⟨_,rfl,⟨hX1,(hX2 v).2 (.inl hv'),hXlt,λT h1 h2 x hx=> ?_⟩,?_⟩
    ·rcases(hX2 x).1 hx with h|⟨u,h3,h4,h5⟩
     ·exact hT T h1 h2 x h
     ·exact h2 u x (hT T h1 h2 u h3) h4 h5
    ·
     obtain⟨w,hw,hws⟩:∃w:Nat,has X w=true∧has S w=false:=by
      apply Classical.byContradiction
      intro hno
      refine hc (hX1.ext hS (λw _=> ?_))
      rw[Bool.eq_iff_iff]
      refine⟨λh=> ?_,λh=>(hX2 w).2 (.inl h)⟩
      cases hh:has S w
      ·exact absurd ⟨w,h,hh⟩ hno
      ·rfl
     have h1:((w:Int)::Aq S).length≤(Aq X).length:=Bq (List.nodup_cons.2 ⟨λhm=>by rw[AM hS,hws] at hm;exact Bool.noConfusion hm,(BD S).nodup⟩) (λx hx=>by
      rcases List.mem_cons.1 hx with rfl|hx
      ·rw[AM hX1];exact hw
      ·obtain⟨u,_,h2,rfl⟩:=mem_elems.1 hx
       rw[AM hX1];exact(hX2 u).2 (.inl h2))
     have h2:(Aq X).length≤n:=(BD X).short (n:=n) (λx hx=>by
      obtain⟨u,_,h2,rfl⟩:=mem_elems.1 hx
      have:=hXlt u h2;omega)
     simp at h1
     show n-(Aq X).length<n-(Aq S).length
     omega
  ·rintro⟨X,_⟩ ⟨k,rfl,hk,hX1,hX2⟩
   dsimp only at hX1 hX2 ⊢
   by_cases hkl:k<(Aq S).length
   ·obtain⟨u,_,h2,h3⟩:=mem_elems.1 (List.getElem_mem hkl)
    have hu:=hlt u h2
    have hAu:idx A (u:Int)=some (A.getD u 0):=by rw[Az (by rw[hA.len];exact hu),AA (by rw[hA.len];exact hu)]
    simp only[dlt hkl,cond_true,Az hkl,bs,h3,hAu,wq k]
    refine⟨_,rfl,⟨k+1,rfl,hkl,VS.ior _ _,λy=> ?_⟩,by dsimp only;omega⟩
    dsimp only
    rw[B9 hX1 (VS.iand _ _),Bool.or_eq_true,has_iand (hA.vs u hu) hW,Bool.and_eq_true,hX2,List.take_succ_eq_append_getElem hkl,h3]
    constructor
    ·rintro((h|⟨u',h4,h5⟩)|⟨h4,h5⟩)
     ·exact .inl h
     ·exact .inr ⟨u',List.mem_append_left _ h4,h5⟩
     ·exact .inr ⟨u,List.mem_append_right _ (by simp),h4,h5⟩
    ·rintro(h|⟨u',h4,h5,h6⟩)
     ·exact .inl (.inl h)
     ·rcases List.mem_append.1 h4 with h4|h4
      ·exact .inl (.inr ⟨u',h4,h5,h6⟩)
      ·simp at h4
       obtain rfl:u'=u:=by omega
       exact .inr ⟨h5,h6⟩
   ·obtain rfl:k=(Aq S).length:=by omega
    simp only[Bm,cond_false]
    refine⟨_,rfl,hX1,λy=> ?_⟩
    rw[hX2,List.take_length]
    constructor
    ·rintro(h|⟨u,h1,h2⟩)
     ·exact .inl h
     ·exact .inr ⟨u,(AM hS).1 h1,h2⟩
    ·rintro(h|⟨u,h1,h2⟩)
     ·exact .inl h
     ·exact .inr ⟨u,(AM hS).2 h1,h2⟩
 ·refine⟨VS.ishl _ _,by rw[Bx (by omega)];simp,λx hx=> ?_,λT h1 _ x hx=> ?_⟩
  ·rw[Bx (by omega)] at hx
   have:=of_decide_eq_true hx;omega
  ·rw[Bx (by omega)] at hx
   rw[of_decide_eq_true hx];exact h1
theorem l1Same_eq (x y:LI)(hx:Sh x):D.c1 x y=some (decide (x=y)):=by
 unfold Sh at hx
 unfold D.c1
 by_cases hl:x.length=y.length
 ·have e:((x.length:Int) !=(y.length:Int))=false:=by simp[hl]
  rw[e,cond_false]
  refine(C3 x.length (λi=>x.getD i 0==y.getD i 0) false (λi hi=> ?_) ?_ rfl rfl).trans ?_
  ·have hi':i<y.length:=by omega
   simp only[dlt hi,cond_true,Az hi,Az hi',bs,AA hi,AA hi',wq i]
   by_cases h:x[i]=y[i]
   ·have:(x[i] !=y[i])=false:=by simp[h]
    rw[this,cond_false,if_pos (by simp[h])]
   ·have:(x[i] !=y[i])=true:=by simp[h]
    rw[this,cond_true,if_neg (by simp[h])]
  ·simp only[Bm,cond_false]
  ·congr 1
   rw[Bool.eq_iff_iff,C7,decide_eq_true_eq]
   constructor
   ·intro h
    exact ext_getD hl (λj hj=>by have:=h j hj;simpa using this)
   ·rintro rfl i _;simp
 ·have e:((x.length:Int) !=(y.length:Int))=true:=by simp;omega
  rw[e,cond_true,decide_eq_false (λh=>hl (by rw[h]))]
abbrev Pr :=Int×Int×Int
def DB (n:Nat)(F:LI)(v:Nat)(S:Int):LI:=(List.range n).map λu=>ior .u32 (ior .u32 (F.getD u 0) (if u=v then S else 0)) (if has S u then ishl .u32 1 (v:Int) else 0)
theorem joinF_get {n:Nat}{F:LI}{v u:Nat}{S:Int}(hu:u<n):(DB n F v S).getD u 0=ior .u32 (ior .u32 (F.getD u 0) (if u=v then S else 0)) (if has S u then ishl .u32 1 (v:Int) else 0):=by
 unfold DB
 rw[AA (by simpa using hu)];simp
theorem vs_ite {c:Prop}[Decidable c]{a b:Int}(ha:VS a)(hb:VS b):VS (if c then a else b):=by split<;>assumption
theorem Dg {n:Nat}{F:LI}{v u:Nat}{S:Int}(hn:n≤16)(hF:FOk F n)(hS:In n S)(hv:v<n)(hu:u<n)(w:Nat):nb (DB n F v S) u w=(nb F u w||(decide (u=v)&&has S w)||(has S u&&decide (w=v))):=by
 unfold nb
 rw[joinF_get hu,B9 (VS.ior _ _) (vs_ite (VS.ishl _ _) VS.zero),B9 (hF.vs u hu) (vs_ite hS.1 VS.zero)]
 congr 1
 ·congr 1
  by_cases h:u=v
  ·rw[if_pos h,decide_eq_true h];simp
  ·rw[if_neg h,decide_eq_false h,BE];simp
 ·cases hc:has S u
  ·rw[if_neg (by simp),BE];simp
  ·rw[if_pos rfl,Bx (by omega)];simp
theorem joinF_ok {n:Nat}{F:LI}{v:Nat}{S:Int}(hn:n≤16)(hF:FOk F n)(hS:In n S)(hv:v<n)(hSv:has S v=false):FOk (DB n F v S) n:=by
 refine⟨by simp[DB],λu hu=>by rw[joinF_get hu];exact VS.ior _ _,λu w hu h=> ?_,λu hu=> ?_,λu w hu h=> ?_⟩
 ·rw[Dg hn hF hS hv hu] at h
  simp only[Bool.or_eq_true,Bool.and_eq_true,decide_eq_true_eq] at h
  rcases h with(h|h)|h
  ·exact hF.lt u w hu h
  ·exact hS.2 w h.2
  ·omega
 ·rw[Dg hn hF hS hv hu,hF.irr u hu]
  by_cases h:u=v
  ·subst h;simp[hSv]
  ·simp[h]
 ·have hw:w<n:=by
   rw[Dg hn hF hS hv hu] at h
   simp only[Bool.or_eq_true,Bool.and_eq_true,decide_eq_true_eq] at h
   rcases h with(h|h)|h
   ·exact hF.lt u w hu h
   ·exact hS.2 w h.2
   ·omega
  rw[Dg hn hF hS hv hu] at h
  rw[Dg hn hF hS hv hw]
  simp only[Bool.or_eq_true,Bool.and_eq_true,decide_eq_true_eq] at h ⊢
  rcases h with(h|h)|h
  ·exact .inl (.inl (hF.sym u w hu h))
  ·exact .inr ⟨h.2,h.1⟩
  ·exact .inl (.inr ⟨h.2,h.1⟩)
structure PK (n:Nat)(o:LI):Prop where
 len:o.length=n
 rng:∀x∈o,0≤x∧x<n
 nd:o.Nodup
def pl (o:LI)(v:Nat):Nat:=o.idxOf (v:Int)
theorem PK.mem {n:Nat}{o:LI}(h:PK n o){v:Nat}(hv:v<n):(v:Int)∈o:=by
 by_cases hc:(v:Int)∈o
 ·exact hc
 ·have:=Bq (l:=(v:Int)::o) (m:=(List.range n).map Int.ofNat) (List.nodup_cons.2 ⟨hc,h.nd⟩) (λx hx=>by
   have hx':0≤x∧x<n:=by
    rcases List.mem_cons.1 hx with rfl|hx
    ·omega
    ·exact h.rng x hx
   exact List.mem_map.2 ⟨x.toNat,List.mem_range.2 (by omega),by show ((x.toNat:Nat):Int)=x;omega⟩)
  have hl:=h.len
  simp at this;omega
theorem PK.pl_lt {n:Nat}{o:LI}(h:PK n o){v:Nat}(hv:v<n):pl o v<n:=by
 have:=List.idxOf_lt_length_iff.2 (h.mem hv)
 have hl:=h.len
 unfold pl;omega
theorem PK.pl_get {n:Nat}{o:LI}(h:PK n o){v:Nat}(hv:v<n)(hl:pl o v<o.length):o[pl o v]=(v:Int):=by
 unfold pl;exact List.getElem_idxOf _
theorem PK.pl_of {n:Nat}{o:LI}(h:PK n o){i v:Nat}(hi:i<o.length)(e:o[i]=(v:Int)):pl o v=i:=by
 have hv:v<n:=by have:=h.rng _ (List.getElem_mem hi);omega
 have hl:=h.pl_lt hv
 have h2:=h.pl_get hv (by rw[h.len];exact hl)
 have hl':pl o v<o.length:=by rw[h.len];exact hl
 have hnd:=List.pairwise_iff_getElem.1 h.nd
 rcases Nat.lt_trichotomy (pl o v) i with c|c|c
 ·exact absurd (h2.trans e.symm) (hnd _ _ hl' hi c)
 ·exact c
 ·exact absurd (h2.trans e.symm).symm (hnd _ _ hi hl' c)
theorem PK.at {n:Nat}{o:LI}(h:PK n o){i:Nat}(hi:i<o.length):∃v:Nat,o[i]=(v:Int)∧v<n∧pl o v=i:=by
 have:=h.rng _ (List.getElem_mem hi)
 have e:o[i]=((o[i].toNat:Nat):Int):=by omega
 exact⟨o[i].toNat,e,by omega,h.pl_of hi e⟩
structure Ris (n:Nat)(R:Int→Int→Prop)(rk:Int→Nat):Prop where
 up:∀x y,R x y→rk x<rk y
 lt:∀v:Nat,v<n→rk v<n
 tr:∀x y z,R x y→R y z→R x z
structure Ch (n:Nat)(R:Int→Int→Prop)(v:Int)(l:LI):Prop where
 hd:∃t,l=v::t
 pw:l.Pairwise R
 rng:∀x∈l,0≤x∧x<n
 mx:∀t:LI,(v::t).Pairwise R→(∀x∈t,0≤x∧x<n)→t.length+1≤l.length
theorem Ris.nodup {n:Nat}{R:Int→Int→Prop}{rk:Int→Nat}(h:Ris n R rk){l:LI}(hp:l.Pairwise R):l.Nodup:=
 List.Pairwise.imp (fun{x y} hxy e=>by subst e;have:=h.up x x hxy;omega) hp
theorem rng_len {n:Nat}{l:LI}(hd:l.Nodup)(hr:∀x∈l,0≤x∧x<n):l.length≤n:=by
 have:=Bq (m:=(List.range n).map Int.ofNat) hd (λx hx=>by
  have:=hr x hx
  exact List.mem_map.2 ⟨x.toNat,List.mem_range.2 (by omega),by show ((x.toNat:Nat):Int)=x;omega⟩)
 simpa using this
theorem Ch.len {n:Nat}{R:Int→Int→Prop}{rk:Int→Nat}(h:Ris n R rk){v:Int}{l:LI}(hc:Ch n R v l):l.length≤n:=rng_len (h.nodup hc.pw) hc.rng
def Mon (ks ks':List (Option LI)):Prop:=∀(v:Nat) (l:LI),ks[v]? =some (some l)→ks'[v]? =some (some l)
theorem Mon.refl (ks:List (Option LI)):Mon ks ks:=λ_ _ h=>h
structure CL (g:LL)(x:LI):Prop where
 nd:x.Nodup
 rng:∀z∈x,0≤z∧z<g.length
 cq:∀u w:Nat,(u:Int)∈x→(w:Int)∈x→u≠w→adj g u w
def Cn (ad:Nat→Nat→Prop)(S:Nat→Prop)(x y:Nat):Prop:=∀T:Nat→Prop,T x→(∀a b,T a→ad a b→S b→T b)→T y
section
variable {ad : Nat → Nat → Prop} {S S' : Nat → Prop} {x y z : Nat}
theorem Cn.refl :Cn ad S x x:=λ_ h _=>h
theorem Cn.step (h:Cn ad S x y)(ha:ad y z)(hz:S z):Cn ad S x z:=λT h1 h2=>h2 _ _ (h T h1 h2) ha hz
theorem Cn.trans (h:Cn ad S x y)(h':Cn ad S y z):Cn ad S x z:=λT h1 h2=>h' T (h T h1 h2) h2
theorem Cn.mono (hs:∀w,S w→S' w)(h:Cn ad S x y):Cn ad S' x y:=λT h1 h2=>h T h1 (λa b p q r=>h2 a b p q (hs _ r))
theorem Cn.mem (h:Cn ad S x y)(hx:S x):S y:=h S hx (λ_ _ _ _ h=>h)
theorem Cn.sym (hs:∀a b,ad a b→ad b a)(hx:S x)(h:Cn ad S x y):Cn ad S y x:=(h (λw=>S w∧Cn ad S w x) ⟨hx,Cn.refl⟩ (λa b ⟨p1,p2⟩ q r=>⟨r,(Cn.refl.step (hs _ _ q) p1).trans p2⟩)).2
end
def Joint (ad:Nat→Nat→Prop)(S:Nat→Prop):Prop:=∀x y,S x→S y→Cn ad S x y
abbrev Ad (F:LI)(a b:Nat):Prop:=nb F a b=true
abbrev El (s:Int)(x:Nat):Prop:=has s x=true
abbrev Mn (s:Int)(v x:Nat):Prop:=has s x=true∧x≠v
structure Parts (F:LI)(W:Nat→Prop)(l:LI):Prop where
 vs:∀s∈l,VS s
 ne:∀s∈l,∃v,El s v
 sub:∀s∈l,∀x,El s x→W x
 cn:∀s∈l,∀x y,El s x→(El s y↔Cn (Ad F) W x y)
 all:∀x,W x→∃s∈l,El s x
 dis:l.Pairwise λs t=>∀x,¬(El s x∧El t x)
theorem Parts.conn {F:LI}{W:Nat→Prop}{l:LI}(h:Parts F W l):l.length≤1↔Joint (Ad F) W:=by
 constructor
 ·intro hl x y hx hy
  obtain⟨s,hs,h1⟩:=h.all x hx
  obtain⟨t,ht,h2⟩:=h.all y hy
  obtain⟨i,hi,rfl⟩:=List.getElem_of_mem hs
  obtain⟨j,hj,rfl⟩:=List.getElem_of_mem ht
  obtain rfl:i=j:=by omega
  exact(h.cn _ hs x y h1).1 h2
 ·intro hc
  apply Classical.byContradiction
  intro hl
  have h0:0<l.length:=by omega
  have h1:1<l.length:=by omega
  obtain⟨x,hx⟩:=h.ne _ (List.getElem_mem h0)
  obtain⟨y,hy⟩:=h.ne _ (List.getElem_mem h1)
  have hcn:=hc x y (h.sub _ (List.getElem_mem h0) x hx) (h.sub _ (List.getElem_mem h1) y hy)
  have:=(h.cn _ (List.getElem_mem h0) x y hx).2 hcn
  exact(List.pairwise_iff_getElem.1 h.dis) 0 1 h0 h1 (by omega) y ⟨this,hy⟩
section
variable {F : LI} {n : Nat} (hn : n ≤ 16) (hF : FOk F n)
include hn hF
theorem rch_cn {W:Int}{v:Nat}{S:Int}(hR:Rch F W v S)(x:Nat):El S x↔Cn (Ad F) (El W) v x:=
 ⟨λh=>hR.least (λx=>Cn (Ad F) (El W) v x) Cn.refl (λ_ _ p q r=>p.step q r) x h,λh=>h (El S) hR.me (λa b p q r=>hR.step a b p q r)⟩
theorem cn_sym {W:Nat→Prop}(hW:∀x,W x→x<n){x y:Nat}(hx:W x)(h:Cn (Ad F) W x y):Cn (Ad F) W y x:=
 (h (λw=>W w∧Cn (Ad F) W w x) ⟨hx,Cn.refl⟩ (λa b ⟨p1,p2⟩ q r=>⟨r,(Cn.refl.step (hF.sym a b (hW a p1) q) p1).trans p2⟩)).2
theorem partsOf_ok {W:Int}(hW:In n W):∃l,D.z0 F W=some l∧Parts F (El W) l∧l.length≤16:=by
 have main:=AS (k:=λl=>some l) (Q:=λl=>Parts F (El W) l∧l.length≤16) (step:=fun(s_66:Int×LI)=>match s_66 with|(x_69,l_70)=>cond (x_69 !=0) ((D.u x_69).bind λy_109=>(D.V F y_109 x_69).bind λy_116=>(AT l_70 ([y_116]:LI)).bind λl_127=>some (.inl ((iandNot .u32 x_69 y_116),l_127))) (some (.inr l_70)))
  (s:=(W,([]:LI))) (λq=>VS q.1∧(∀x,El q.1 x→El W x)∧(∀s∈q.2,VS s)∧(∀s∈q.2,∃v,El s v)∧(∀s∈q.2,∀x,El s x→El W x)∧(∀s∈q.2,∀x y,El s x→(El s y↔Cn (Ad F) (El W) x y))∧(∀x,El W x→El q.1 x∨∃s∈q.2,El s x)∧(∀x,El q.1 x→∀s∈q.2,¬El s x)∧(q.2.Pairwise λs t=>∀x,¬(El s x∧El t x))∧q.2.length+(Aq q.1).length≤16)
  (λq=>(Aq q.1).length) (λl=>Parts F (El W) l∧l.length≤16) ?_ ⟨hW.1,λx h=>h,by simp,by simp,by simp,by simp,λx h=> .inl h,by simp,by simp,?_⟩ (λr hr=>⟨r,rfl,hr⟩)
 ·obtain⟨l,e,hl⟩:=main
  refine⟨l,?_,hl⟩
  unfold D.z0
  exact e
 ·rintro⟨W',l⟩ ⟨v1,h1,h2,h3,h4,h5,h6,h7,h8,h9⟩
  dsimp only at v1 h1 h2 h3 h4 h5 h6 h7 h8 h9 ⊢
  by_cases h0:W'=0
  ·have:(W' !=0)=false:=by simp[h0]
   rw[this,cond_false]
   refine⟨_,rfl,⟨h2,h3,h4,h5,λx hx=> ?_,h8⟩,by omega⟩
   rcases h6 x hx with h|h
   ·rw[h0] at h;simp[El,BE] at h
   ·exact h
  ·have:(W' !=0)=true:=by simpa using h0
   rw[this,cond_true]
   obtain⟨k,hk32,ek,hk,_,_⟩:=least_eq v1 h0
   have hkn:=hW.2 k (h1 k hk)
   obtain⟨S,eS,hR,hSn⟩:=reach_ok hn hF.net hkn v1
   have hlen:=Cd W'
   rw[ek,bs,eS,bs,Bk (by simp;omega),bs]
   have hSW:∀x,El S x→El W' x:=λx hx=>((rch_cn hn hF hR x).1 hx).mem hk
   have hS':∀x,El (iandNot .u32 W' S) x↔El W' x∧¬El S x:=λx=>by
    unfold El
    rw[BJ v1 hR.vs];simp
   have hWn:∀x,El W x→x<n:=λx hx=>hW.2 x hx
   have hW'n:∀x,El W' x→x<n:=λx hx=>hW.2 x (h1 x hx)
   refine⟨_,rfl,⟨VS.iandNot _ _,λx hx=>h1 x ((hS' x).1 hx).1,?_,?_,?_,?_,λx hx=> ?_,λx hx s hs=> ?_,?_,?_⟩,?_⟩
   ·intro s hs
    rcases List.mem_append.1 hs with h|h
    ·exact h2 s h
    ·simp at h;subst h;exact hR.vs
   ·intro s hs
    rcases List.mem_append.1 hs with h|h
    ·exact h3 s h
    ·simp at h;subst h;exact⟨k,hR.me⟩
   ·intro s hs x hx
    rcases List.mem_append.1 hs with h|h
    ·exact h4 s h x hx
    ·simp at h;subst h;exact h1 x (hSW x hx)
   ·intro s hs x y hx
    rcases List.mem_append.1 hs with h|h
    ·exact h5 s h x y hx
    ·simp at h;subst h
     constructor
     ·intro hy
      have c1:=cn_sym hn hF hW'n hk ((rch_cn hn hF hR x).1 hx)
      exact(c1.trans ((rch_cn hn hF hR y).1 hy)).mono h1
     ·intro hc
      refine hc (El s) hx (λa b ha hab hb=> ?_)
      have haW:=hSW a ha
      rcases h6 b hb with h|⟨t,ht,hbt⟩
      ·exact hR.step a b ha hab h
      ·exfalso
       have:El t a:=(h5 t ht b a hbt).2 (Cn.refl.step (hF.sym a b (hW'n a haW) hab) (h1 a haW))
       exact h7 a haW t ht this
   ·by_cases hxS:El S x
    ·exact .inr ⟨S,by simp,hxS⟩
    ·rcases h6 x hx with h|⟨s,hs,h⟩
     ·exact .inl ((hS' x).2 ⟨h,hxS⟩)
     ·exact .inr ⟨s,by simp[hs],h⟩
   ·obtain⟨p,q⟩:=(hS' x).1 hx
    rcases List.mem_append.1 hs with h|h
    ·exact h7 x p s h
    ·simp at h;subst h;exact q
   ·rw[List.pairwise_append]
    refine⟨h8,by simp,λs hs t ht x ⟨p,q⟩=> ?_⟩
    simp at ht;subst ht
    exact h7 x (hSW x q) s hs p
   ·dsimp only
    have hlt:(Aq (iandNot .u32 W' S)).length+1≤(Aq W').length:=by
     have:=Bq (l:=(k:Int)::Aq (iandNot .u32 W' S)) (m:=Aq W') (List.nodup_cons.2 ⟨λhx=> ?_,List.Pairwise.imp (λh e=>by omega) (BD _)⟩) (λx hx=> ?_)
     ·simpa using this
     ·exact((hS' k).1 ((AM (VS.iandNot _ _)).1 hx)).2 hR.me
     ·rcases List.mem_cons.1 hx with rfl|hx
      ·exact(AM v1).2 hk
      ·obtain⟨w,hw,q,rfl⟩:=mem_elems.1 hx
       exact(AM v1).2 ((hS' w).1 q).1
    simp;omega
   ·dsimp only
    have:=Bq (l:=(k:Int)::Aq (iandNot .u32 W' S)) (m:=Aq W') (List.nodup_cons.2 ⟨λhx=> ?_,List.Pairwise.imp (λh e=>by omega) (BD _)⟩) (λx hx=> ?_)
    ·simp at this;omega
    ·exact((hS' k).1 ((AM (VS.iandNot _ _)).1 hx)).2 hR.me
    ·rcases List.mem_cons.1 hx with rfl|hx
     ·exact(AM v1).2 hk
     ·obtain⟨w,hw,q,rfl⟩:=mem_elems.1 hx
      exact(AM v1).2 ((hS' w).1 q).1
 ·have:=inc_len (n:=n) (BD W) (λz hz=>by
   obtain⟨w,_,q,rfl⟩:=mem_elems.1 hz
   have:=hW.2 w q;omega)
  simp;omega
end
end Go.Sx

namespace Go.Sx
def Way (ad:Nat→Nat→Prop):List Nat→Prop
 |[]=>True
 |[_]=>True
 |a::b::l=>ad a b∧Way ad (b::l)
theorem Way.tail {ad:Nat→Nat→Prop}{a:Nat}{l:List Nat}(h:Way ad (a::l)):Way ad l:=by
 cases l with
 |nil=>trivial
 |cons b l=>exact h.2
structure Wy (ad:Nat→Nat→Prop)(H:Nat→Prop)(x y:Nat)(l:List Nat):Prop where
 len:2≤l.length
 fst:l[0]? =some x
 lst:l[l.length-1]? =some y
 way:Way ad l
 mid:∀i (h:i<l.length),0<i→i+1<l.length→H l[i]
structure Hole (ad:Nat→Nat→Prop)(c:List Nat):Prop where
 len:4≤c.length
 nd:c.Nodup
 step:∀i (h:i+1<c.length),ad c[i] c[i+1]
 close:ad (c[c.length-1]'(by omega)) (c[0]'(by omega))
 no:∀i j (_:i+1<j) (hj:j<c.length),¬(i=0∧j=c.length-1)→¬ad (c[i]'(by omega)) c[j]
def NoHole (ad:Nat→Nat→Prop)(X:Nat→Prop):Prop:=∀c,Hole ad c→¬∀x∈c,X x
section
variable {ad : Nat → Nat → Prop} (hs : ∀ a b, ad a b → ad b a) (hi : ∀ a, ¬ ad a a)
include hs hi
end
end Go.Sx

namespace Go.Sx
def iz (P:List Nat):LI:=P.map Int.ofNat
theorem Bv (P:List Nat):(iz P).length=P.length:=by simp[iz]
theorem iz_app (P:List Nat)(v:Nat):iz (P++[v])=iz P++[(v:Int)]:=by simp[iz]
theorem Cp {P:List Nat}{i:Nat}(h:i<P.length):idx (iz P) (i:Int)=some ((P[i]:Nat):Int):=by
 rw[Az (by rw[Bv];exact h)];simp[iz]
structure Gd (g:LL)(long:Nat)(P:List Nat):Prop where
 nd:P.Nodup
 lt:∀x∈P,x<g.length
 step:∀i (h:i+1<P.length),adj g P[i] P[i+1]
 far:∀i j (_:i+1<j) (hj:j<P.length),adj g (P[i]'(by omega)) P[j]↔(i=0∧j+1=long)
theorem Gd.hole {g:LL}(hg:GOk g){long:Nat}{P:List Nat}(h:Gd g long P)(hl:P.length=long)(h4:4≤long):Hole (adj g) P:=by
 have hs:adj g (P[0]'(by omega)) (P[P.length-1]'(by omega)):=(h.far 0 (P.length-1) (by omega) (by omega)).2 ⟨rfl,by omega⟩
 exact⟨by omega,h.nd,h.step,hg.sym _ _ (h.lt _ (List.getElem_mem _)) hs,λi j hij hj hx ha=>hx (by have:=(h.far i j hij hj).1 ha;omega)⟩
theorem Gd.take {g:LL}{long:Nat}{P:List Nat}(h:Gd g long P)(k:Nat):Gd g long (P.take k):=by
 refine⟨List.Pairwise.sublist (List.take_sublist k P) h.nd,λx hx=>h.lt x (List.mem_of_mem_take hx),λi hi=> ?_,λi j hij hj=> ?_⟩
 ·simp at hi
  rw[List.getElem_take,List.getElem_take]
  exact h.step i (by omega)
 ·simp at hj
  rw[List.getElem_take,List.getElem_take]
  exact h.far i j hij (by omega)
section
variable {g : LL} (hg : GOk g)
include hg
end
end Go.Sx

namespace Go.Sx
section
variable {g : LL} (hg : GOk g)
include hg
end
end Go.Sx

namespace Go.Sx
def Nr (ad:Nat→Nat→Prop)(v:Nat):Nat→Nat→Prop
 |0,_=>False
 |k+1,u=>u=v∨∃w,Nr ad v k w∧ad w u
theorem Nr.up {ad:Nat→Nat→Prop}{v:Nat}:∀{k u:Nat},Nr ad v k u→Nr ad v (k+1) u
 |0,_,h=>h.elim
 |_+1,_,h=>h.imp id (fun⟨w,h1,h2⟩=>⟨w,h1.up,h2⟩)
section
variable {g : LL} (hg : GOk g)
include hg
theorem Nr.lt {v:Nat}(hv:v<g.length):∀{k u:Nat},Nr (adj g) v k u→u<g.length
 |0,_,h=>h.elim
 |k+1,u,h=>by
  rcases h with rfl|⟨w,h1,h2⟩
  ·exact hv
  ·exact hg.lt (Nr.lt hv h1) h2
theorem Nr.of {v:Nat}:∀(l:List Nat) (u:Nat),u<g.length→Way (adj g) (u::l++[v])→Nr (adj g) v (l.length+2) u
 |[],u,hu,h=> .inr ⟨v,.inl rfl,hg.sym _ _ hu h.1⟩
 |a::l,u,hu,h=> .inr ⟨a,Nr.of l a (hg.lt hu h.1) h.2,hg.sym _ _ hu h.1⟩
end
end Go.Sx

namespace Go.Sx
section
variable {g : LL} (hg : GOk g)
include hg
theorem adj_ltF {a b:Nat}(h:adj g a b):a<g.length:=by
 apply Classical.byContradiction
 intro hn
 unfold adj row at h
 rw[List.getD_eq_getElem?_getD,List.getElem?_eq_none (by omega)] at h
 simp at h
theorem Cz (a b:Nat)(h:adj g a b):adj g b a:=hg.sym _ _ (adj_ltF hg h) h
end
end Go.Sx

namespace Go.Sx
theorem vhas_eq {s:Int}(hs:VS s){x:Nat}(hx:x<32):D.k s (x:Int)=some (has s x):=by
 unfold D.k
 have:decide ((x:Int)<0)=false:=by simp
 rw[this,cond_false,bitAt_eq hs hx]
theorem mk_snoc (xs:LI)(v:Int):mk (xs++[v])=ior .u32 (mk xs) (ishl .u32 1 v):=by
 unfold mk;rw[List.foldl_append];rfl
theorem iz_mem {c:List Nat}{v:Nat}:(v:Int)∈iz c↔v∈c:=by
 unfold iz
 rw[List.mem_map]
 constructor
 ·rintro⟨w,hw,e⟩
  have e:(w:Int)=(v:Int):=e
  have:w=v:=by omega
  exact this▸hw
 ·exact λh=>⟨v,h,rfl⟩
theorem iz_take {c:List Nat}{v i:Nat}:(v:Int)∈(iz c).take i↔v∈c.take i:=by
 unfold iz
 rw[←List.map_take]
 exact iz_mem
theorem Eg {c:List Nat}(h:c.Nodup){i:Nat}(hi:i<c.length):c[i]∉c.take i:=λhm=>by
 obtain⟨j,hj,hji,e⟩:=mem_take_iff.1 hm
 have:=(List.getElem_inj h).1 e
 omega
section
variable {g : LL} (hg : GOk g) {c : List Nat} (hH : Hole (adj g) c) (hlt : ∀ x ∈ c, x < g.length)
include hg hH hlt
end
end Go.Sx

namespace Go.Sx
structure Rd (ad:Nat→Nat→Prop)(c:List Nat):Prop where
 len:3≤c.length
 nd:c.Nodup
 step:∀i (h:i+1<c.length),ad c[i] c[i+1]
 close:ad (c[c.length-1]'(by omega)) (c[0]'(by omega))
section
variable {g : LL} (hg : GOk g) {c : List Nat} (hH : Rd (adj g) c) (hlt : ∀ x ∈ c, x < g.length)
include hg hH hlt
theorem rd_len :c.length≤16:=by
 have:=hg.n16
 have h:=Bq (l:=iz c) (m:=(List.range g.length).map Int.ofNat) (by
  unfold iz
  exact List.pairwise_map.2 (hH.nd.imp (λh h'=>h (Int.ofNat.inj h')))) (λx hx=>by
  unfold iz at hx
  obtain⟨v,hv,rfl⟩:=List.mem_map.1 hx
  exact List.mem_map.2 ⟨v,List.mem_range.2 (hlt v hv),rfl⟩)
 rw[Bv] at h
 simp at h
 omega
theorem rd_len' :c.length≤g.length:=by
 have h:=Bq (l:=iz c) (m:=(List.range g.length).map Int.ofNat) (by
  unfold iz
  exact List.pairwise_map.2 (hH.nd.imp (λh h'=>h (Int.ofNat.inj h')))) (λx hx=>by
  unfold iz at hx
  obtain⟨v,hv,rfl⟩:=List.mem_map.1 hx
  exact List.mem_map.2 ⟨v,List.mem_range.2 (hlt v hv),rfl⟩)
 rw[Bv] at h
 simpa using h
theorem rd_prev {i:Nat}(hi:i<c.length)(h0:0<i):adj g (c[i-1]'(by omega)) c[i]:=by
 have:=hH.step (i-1) (by omega)
 have e:i-1+1=i:=by omega
 simpa only[e] using this
theorem rd_trail :D.i0 g (iz c)=some true:=by
 have h16:=hg.n16
 have hm:=rd_len hg hH hlt
 unfold D.i0
 refine(Co (λi=>(mk ((iz c).take i),(i:Int))) c.length (.inl ()) rfl (λi hi=> ?_) ?_).trans rfl
 ·have hci:c[i]<g.length:=hlt _ (List.getElem_mem hi)
  have hil:i<(iz c).length:=by rw[Bv];exact hi
  have e1:decide ((i:Int)<((iz c).length:Int))=true:=dlt hil
  have e2:D.M ((c[i]:Nat):Int) 0 (IntKind.i64.wrap ((g.length:Int)-1))=some true:=by
   rw[inRange_eq,w64 (by omega) (by omega)]
   congr 1
   rw[Bool.and_eq_true,decide_eq_true_eq,decide_eq_true_eq];omega
  have hrng:∀x∈(iz c).take i,0≤x∧x<32:=λx hx=>by
   obtain⟨v,hv,rfl⟩:=List.mem_map.1 (List.mem_of_mem_take hx)
   have:=hlt v hv
   show (0:Int)≤(v:Int)∧(v:Int)<32
   omega
  have e3:D.k (mk ((iz c).take i)) ((c[i]:Nat):Int)=some false:=by
   rw[vhas_eq (VS.mk _) (by omega),has_mk hrng]
   congr 1
   rw[decide_eq_false_iff_not,iz_take]
   exact Eg hH.nd hi
  have e4:(cond (decide ((0:Int)<(i:Int))) ((idx g ((c[i]:Nat):Int)).bind λe_401=>(idx (iz c) (IntKind.i64.wrap ((i:Int)-1))).bind λe_407=>(D.q e_401 e_407).bind λy_413=>some (!y_413)) (some false))=some false:=by
   by_cases h0:i=0
   ·subst h0;rfl
   ·have d:decide ((0:Int)<(i:Int))=true:=by simp;omega
    have hrow:Sh (row g c[i]):=hg.sh2.row hci
    have ep:idx (iz c) (IntKind.i64.wrap ((i:Int)-1))=some (((c[i-1]'(by omega)):Nat):Int):=by
     rw[w64 (by omega) (by omega),show (i:Int)-1=((i-1:Nat):Int) by omega]
     exact Cp (by omega)
    rw[d,cond_true,BY hci,bs,ep,bs,Dl _ _ hrow,bs]
    have:decide ((((c[i-1]'(by omega)):Nat):Int)∈row g c[i])=true:=decide_eq_true (Cz hg _ _ (rd_prev hg hH hlt hi (by omega)))
    rw[this];rfl
  have e5:mk ((iz c).take (i+1))=ior .u32 (mk ((iz c).take i)) (ishl .u32 1 ((c[i]:Nat):Int)):=by
   rw[List.take_succ_eq_append_getElem hil,mk_snoc]
   congr 2
   simp[iz]
  dsimp only
  rw[e1,cond_true,Cp hi,bs,e2,bs,Bool.not_true,cond_false,e3,bs,bs,cond_false,e4,bs,bs,cond_false,BT,bs,wi (by omega),e5]
 ·dsimp only
  rw[show decide (((c.length:Nat):Int)<((iz c).length:Int))=false by rw[Bv];simp,cond_false]
theorem rd_implLoop :D.H0 g (iz c)=some true:=by
 have h16:=hg.n16
 have h4:=hH.len
 have hm:=rd_len hg hH hlt
 have h0:c[0]'(by omega)<g.length:=hlt _ (List.getElem_mem _)
 unfold D.H0
 rw[BV g hg.sh2,B7 hg,bs,rd_trail hg hH hlt]
 have d:decide ((3:Int)≤((iz c).length:Int))=true:=by rw[Bv];simp;omega
 have i0:idx (iz c) 0=some ((c[0]'(by omega):Nat):Int):=Cp (i:=0) (by omega)
 have il:idx (iz c) (IntKind.i64.wrap (((iz c).length:Int)-1))=some ((c[c.length-1]'(by omega):Nat):Int):=by
  rw[Bv,w64 (by omega) (by omega),show (c.length:Int)-1=((c.length-1:Nat):Int) by omega]
  exact Cp (by omega)
 have:decide ((((c[c.length-1]'(by omega)):Nat):Int)∈row g (c[0]'(by omega)))=true:=decide_eq_true (Cz hg _ _ hH.close)
 rw[d,Bool.and_true,cond_true,bs,bs,cond_true,i0,bs,BY h0,bs,il,bs,Dl _ _ (hg.sh2.row h0),this]
 rfl
theorem rd_path :D.o0 g (iz c)=some true:=by
 have h16:=hg.n16
 have hm:=rd_len hg hH hlt
 unfold D.o0
 refine(Co (λi=>(i:Int)) c.length (.inl ()) rfl (λi hi=> ?_) ?_).trans rfl
 ·have hci:c[i]<g.length:=hlt _ (List.getElem_mem hi)
  have hil:i<(iz c).length:=by rw[Bv];exact hi
  have hns:decide (((c[i]:Nat):Int)∈(iz c).take i)=false:=by
   rw[decide_eq_false_iff_not,iz_take];exact Eg hH.nd hi
  have e4:(cond (decide ((0:Int)<(i:Int))) ((idx (iz c) (IntKind.i64.wrap ((i:Int)-1))).bind λe_458=>(idx (iz c) (i:Int)).bind λe_464=>(D.r g e_458 e_464).bind λy_470=>some (!y_470)) (some false))=some false:=by
   by_cases h0:i=0
   ·subst h0;rfl
   ·have d:decide ((0:Int)<(i:Int))=true:=by simp;omega
    have hpl:c[i-1]'(by omega)<g.length:=hlt _ (List.getElem_mem _)
    have ep:idx (iz c) (IntKind.i64.wrap ((i:Int)-1))=some (((c[i-1]'(by omega)):Nat):Int):=by
     rw[w64 (by omega) (by omega),show (i:Int)-1=((i-1:Nat):Int) by omega]
     exact Cp (by omega)
    have:decide (((c[i]:Nat):Int)∈row g (c[i-1]'(by omega)))=true:=decide_eq_true (rd_prev hg hH hlt hi (by omega))
    rw[d,cond_true,ep,bs,Cp hi,bs,DS g hg hpl,bs,this];rfl
  rw[show decide ((i:Int)<((iz c).length:Int))=true from dlt hil,cond_true,Cp hi,bs,l1There_eq hg hci,bs,Bool.not_true,cond_false,Dt (by omega),bs,bs,CG _ _ (by unfold Sh;rw[List.length_take,Bv];omega),bs,hns,bs,cond_false]
  rw[Cp hi] at e4
  rw[e4,bs,bs,cond_false,wi (by omega)]
 ·rw[show decide (((c.length:Nat):Int)<((iz c).length:Int))=false by rw[Bv];simp,cond_false]
theorem rd_specLoop :D.K0 g (iz c)=some true:=by
 have h16:=hg.n16
 have h4:=hH.len
 have hm:=rd_len hg hH hlt
 have hm':=rd_len' hg hH hlt
 have h0:c[0]'(by omega)<g.length:=hlt _ (List.getElem_mem _)
 unfold D.K0 D.c
 have d:decide (((iz c).length:Int)<3)=false:=by rw[Bv];simp;omega
 have d2:decide ((g.length:Int)<((iz c).length:Int))=false:=by rw[Bv];simp;omega
 have i0:idx (iz c) 0=some ((c[0]'(by omega):Nat):Int):=Cp (i:=0) (by omega)
 have il:idx (iz c) (IntKind.i64.wrap (((iz c).length:Int)-1))=some ((c[c.length-1]'(by omega):Nat):Int):=by
  rw[Bv,w64 (by omega) (by omega),show (c.length:Int)-1=((c.length-1:Nat):Int) by omega]
  exact Cp (by omega)
 have:decide ((((c[c.length-1]'(by omega)):Nat):Int)∈row g (c[0]'(by omega)))=true:=decide_eq_true (Cz hg _ _ hH.close)
 rw[Ca g hg.sh2,B7 hg,bs,d,Bool.not_true,Bool.or_false,cond_false,bs,d2,bs,cond_false,rd_path hg hH hlt,bs,Bool.not_true,bs,cond_false,i0,bs,il,bs,DS g hg h0,this]
 rfl
end
end Go.Sx

namespace Go.Sx
theorem one_pow {n u:Nat}(hn:n≤16)(hu:u<n):ishl .u32 1 (u:Int)=((2^u:Nat):Int):=by
 have h:=In.of (n:=n) (i:=2^u) (Nat.pow_lt_pow_right (by omega) hu) hn
 refine(VS.ishl _ _).ext h.1 (λv _=> ?_)
 rw[Bx (by omega),Bc,Nat.testBit_two_pow]
 rw[Bool.eq_iff_iff,decide_eq_true_eq,decide_eq_true_eq]
 exact⟨λh=>h.symm,λh=>h.symm⟩
structure Trp (F:LI)(n:Nat)(L:Int)(v0:Nat)(P:List Nat):Prop where
 nd:P.Nodup
 len:P.length=n
 lt:∀x∈P,x<n
 st:P[0]? =some v0
 en:∀(h:0<P.length),has L (P[P.length-1]'(by omega))=true
 ad:∀i (h:i+1<P.length),nb F P[i] P[i+1]=true
section
variable {F : LI} {n : Nat} (hF : FOk F n) (h1 : 1 ≤ n) (h16 : n ≤ 16) {L : Int}
include hF h1 h16
theorem EY {E:LI}(hEl:E.length=2^n)(hEv:∀s,s<2^n→VS (E.getD s 0))(hE:∀s v,0<s→s<2^n→(has (E.getD s 0) v=true↔GoF F n L s v)){v0:Nat}(hv:v0<n):
  ∃r,D.A F (v0:Int) E=some r∧((¬GoF F n L (2^v0) v0∧r=[])∨(GoF F n L (2^v0) v0∧r≠[]∧∃P,r=iz P∧Trp F n L v0 P)):=by
 have hp:=pow16 h16
 have hlen:=hF.len
 have hs0:2^v0<2^n:=Nat.pow_lt_pow_right (by omega) hv
 have hpos0:0<2^v0:=Nat.two_pow_pos v0
 have iE:∀s:Nat,s<2^n→idx E (s:Int)=some (E.getD s 0):=λs hs=>by rw[Az (show s<E.length by omega),AA]
 unfold D.A
 rw[BT,bs,one_pow h16 hv,iE _ hs0,bs,DZ (hEv _ hs0) (by omega),bs]
 cases hb:has (E.getD (2^v0) 0) v0
 ·refine⟨[],rfl,.inl ⟨λh=> ?_,rfl⟩⟩
  rw[(hE _ _ hpos0 hs0).2 h] at hb;cases hb
 ·have hgo:=(hE _ _ hpos0 hs0).1 hb
  rw[Bool.not_true,cond_false]
  refine AS (λs:Int×Int×LI=>∃(v m:Nat) (Q:List Nat),s=((v:Int),(m:Int),iz (Q++[v]))∧v<n∧m<2^n∧GoF F n L m v∧(Q++[v]).Nodup∧(∀x:Nat,x∈Q++[v]↔m.testBit x=true)∧(Q++[v])[0]? =some v0∧∀i (h:i+1<(Q++[v]).length),nb F (Q++[v])[i] (Q++[v])[i+1]=true)
   (λs=>2^n-s.2.1.toNat) (λr:LI=>r≠[]∧∃P,r=iz P∧Trp F n L v0 P) ?_ ⟨v0,2^v0,[],by rfl,hv,hs0,hgo,by simp,λx=> ?_,rfl,λi h=>by simp at h⟩ ?_
  ·rintro _ ⟨v,m,Q,rfl,hvn,hm,hg,hnd,hmem,hst,had⟩
   dsimp only
   rw[Cx,hlen,bs,DM h16]
   have hlt:∀x∈Q++[v],x<n:=λx hx=>by
    have:=(hmem x).1 hx
    have h2:=(In.of hm h16).2 x
    rw[Bc] at h2
    exact h2 this
   have hQl:(Q++[v]).length≤n:=by
    have:=Bq (l:=iz (Q++[v])) (m:=(List.range n).map Int.ofNat) (by
     unfold iz
     exact List.pairwise_map.2 (hnd.imp (λh h'=>h (Int.ofNat.inj h')))) (λx hx=>by
     obtain⟨z,hz,rfl⟩:=List.mem_map.1 hx
     exact List.mem_map.2 ⟨z,List.mem_range.2 (hlt z hz),rfl⟩)
    rw[Bv] at this
    simpa using this
   by_cases hfull:m=2^n-1
   ·have:((m:Int) !=((2^n-1:Nat):Int))=false:=by rw[hfull];exact bne_self_eq_false _
    rw[this,cond_false]
    have hL:has L v=true:=by
     rcases hg.inv with⟨_,b⟩|⟨_,u,_,b2,b3,_⟩
     ·exact b
     ·rw[hfull,EL b3] at b2;cases b2
    refine⟨_,rfl,by simp[iz],Q++[v],rfl,hnd,?_,hlt,hst,λh=> ?_,had⟩
    ·have:=Bq (l:=(List.range n).map Int.ofNat) (m:=iz (Q++[v])) (by
      unfold List.Nodup
      rw[List.pairwise_map]
      exact List.nodup_range.imp (λh h'=>h (Int.ofNat.inj h'))) (λx hx=>by
      obtain⟨z,hz,rfl⟩:=List.mem_map.1 hx
      exact iz_mem.2 ((hmem z).2 (by rw[hfull];exact EL (List.mem_range.1 hz))))
     rw[Bv] at this
     simp only[List.length_map,List.length_range] at this
     omega
    ·have:(Q++[v])[(Q++[v]).length-1]'(by omega)=v:=by simp
     rw[this];exact hL
   ·have:((m:Int) !=((2^n-1:Nat):Int))=true:=by rw[bne_iff_ne];omega
    have iF:idx F (v:Int)=some (F.getD v 0):=by rw[Az (show v<F.length by omega),AA]
    have hIn:=In.of hm h16
    rw[this,cond_true,iF,bs,C1 _ (VS.iandNot _ _),bs]
    let us:=Aq (iandNot .u32 (F.getD v 0) (m:Int))
    have hus:us=Aq (iandNot .u32 (F.getD v 0) (m:Int)):=rfl
    have hul:us.length≤32:=Cd (iandNot .u32 (F.getD v 0) (m:Int))
    have hum:∀u:Nat,(u:Int)∈us↔nb F v u=true∧m.testBit u=false:=λu=>by
     rw[hus,AM (VS.iandNot _ _),BJ (hF.vs v hvn) hIn.1,Bc,Bool.and_eq_true,Bool.not_eq_true']
     rfl
    obtain⟨u0,b1,b2,b3,b4⟩:∃u,nb F v u=true∧m.testBit u=false∧u<n∧GoF F n L (m|||2^u) u:=by
     rcases hg.inv with⟨b,_⟩|⟨_,u,b1,b2,b3,b4⟩
     ·exact absurd b hfull
     ·exact⟨u,b1,b2,b3,b4⟩
    obtain⟨q0,hq0,eq0⟩:=List.getElem_of_mem ((hum u0).2 ⟨b1,b2⟩)
    rw[←hus]
    refine AS (λs:Int=>∃t:Nat,s=(t:Int)∧t≤q0) (λs=>us.length-s.toNat) (λr:Int=>∃u:Nat,r=(u:Int)∧nb F v u=true∧m.testBit u=false∧u<n∧GoF F n L (m|||2^u) u) ?_ ⟨0,rfl,Nat.zero_le _⟩ ?_
    ·rintro _ ⟨t,rfl,ht⟩
     have htl:t<us.length:=by omega
     obtain⟨u,_,hu,eu⟩:=mem_elems.1 (List.getElem_mem htl)
     have huu:=(hum u).1 (by rw[←eu];exact List.getElem_mem htl)
     have hun:=hF.lt v u hvn huu.1
     have hor:=CJ hm hun
     have hgt:=CH h16 hm hun huu.2
     rw[dlt htl,cond_true,Az htl,show us[t]=(u:Int) from eu,bs,BT,bs,EH h16 hm hun,iE _ hor,bs,DZ (hEv _ hor) (by omega),bs]
     cases hbb:has (E.getD (m|||2^u) 0) u
     ·rw[cond_false,wi (by omega)]
      refine⟨_,rfl,⟨t+1,rfl,?_⟩,by dsimp only;omega⟩
      by_cases h:t=q0
      ·subst h
       have:u=u0:=by rw[eu] at eq0;omega
       subst this
       rw[(hE _ _ (by omega) hor).2 b4] at hbb;cases hbb
      ·omega
     ·rw[cond_true]
      exact⟨_,rfl,u,rfl,huu.1,huu.2,hun,(hE _ _ (by omega) hor).1 hbb⟩
    ·rintro _ ⟨u,rfl,c1,c2,c3,c4⟩
     have hor:=CJ hm c3
     have hgt:=CH h16 hm c3 c2
     rw[BT,bs,Bk (by rw[Bv,List.length_singleton];omega),bs,EH h16 hm c3]
     refine⟨_,rfl,⟨u,m|||2^u,Q++[v],by rw[←iz_app],c3,hor,c4,?_,λx=> ?_,?_,λi h=> ?_⟩,by dsimp only;omega⟩
     ·rw[List.nodup_append]
      refine⟨hnd,by simp,λa ha b hb e=> ?_⟩
      simp at hb
      subst hb;subst e
      rw[(hmem a).1 ha] at c2;cases c2
     ·rw[List.mem_append,hmem,Nat.testBit_or,Nat.testBit_two_pow,Bool.or_eq_true,decide_eq_true_eq,List.mem_singleton]
      exact⟨λh=>h.imp id (λh=>h.symm),λh=>h.imp id (λh=>h.symm)⟩
     ·rw[List.getElem?_append_left (by simp)];exact hst
     ·by_cases hl:i+1<(Q++[v]).length
      ·rw[List.getElem_append_left (show i<(Q++[v]).length by omega),List.getElem_append_left hl]
       exact had i hl
      ·have hi':i=Q.length:=by simp at h hl;omega
       subst hi'
       rw[List.getElem_append_left (show Q.length<(Q++[v]).length by simp),List.getElem_append_right (Nat.le_refl _),List.getElem_append_right (by simp)]
       simpa using c1
  ·rw[List.nil_append,List.mem_singleton,Nat.testBit_two_pow,decide_eq_true_eq]
   exact⟨λh=>h.symm,λh=>h.symm⟩
  ·rintro r ⟨hne,h⟩
   have:nonE r=some ():=by
    cases r with
    |nil=>exact absurd rfl hne
    |cons _ _=>rfl
   rw[this,bs]
   exact⟨r,rfl,.inr ⟨hgo,hne,h⟩⟩
end
end Go.Sx

namespace Go.Sx
def Gm (E:Nat→Nat→Prop)(a b c d:Nat):Prop:=E c d∧((a=c∧¬E b d∧b≠d)∨(b=d∧¬E a c∧a≠c))
def Kl (E:Nat→Nat→Prop)(a b c d:Nat):Prop:=∀T:Nat→Nat→Prop,T a b→(∀p q r s,T p q→Gm E p q r s→T r s)→T c d
section
variable {E : Nat → Nat → Prop} (hs : ∀ a b, E a b → E b a) (hi : ∀ a, ¬ E a a)
theorem Kl.refl {a b:Nat}:Kl E a b a b:=λ_ h _=>h
theorem Kl.step {a b c d p q:Nat}(h:Kl E a b c d)(g:Gm E c d p q):Kl E a b p q:=λT h1 h2=>h2 _ _ _ _ (h T h1 h2) g
theorem Kl.trans {a b c d p q:Nat}(h:Kl E a b c d)(g:Kl E c d p q):Kl E a b p q:=λT h1 h2=>g T (h T h1 h2) h2
include hs
theorem Gm.sym {a b c d:Nat}(he:E a b)(h:Gm E a b c d):Gm E c d a b:=by
 rcases h with⟨h0,⟨h1,h2,h3⟩|⟨h1,h2,h3⟩⟩
 ·exact⟨he,.inl ⟨h1.symm,λe=>h2 (hs _ _ e),λe=>h3 e.symm⟩⟩
 ·exact⟨he,.inr ⟨h1.symm,λe=>h2 (hs _ _ e),λe=>h3 e.symm⟩⟩
theorem Gm.op {a b c d:Nat}(h:Gm E a b c d):Gm E b a d c:=by
 rcases h with⟨h0,⟨h1,h2,h3⟩|⟨h1,h2,h3⟩⟩
 ·exact⟨hs _ _ h0,.inr ⟨h1,h2,h3⟩⟩
 ·exact⟨hs _ _ h0,.inl ⟨h1,h2,h3⟩⟩
theorem Kl.sym {a b c d:Nat}(he:E a b)(h:Kl E a b c d):Kl E c d a b:=
 (h (λp q=>E p q∧Kl E p q a b) ⟨he,Kl.refl⟩ (λ_ _ _ _ ⟨h1,h2⟩ g=>⟨g.1,(Kl.refl.step (g.sym hs h1)).trans h2⟩)).2
theorem Kl.op {a b c d:Nat}(h:Kl E a b c d):Kl E b a d c:=h (λp q=>Kl E b a q p) Kl.refl (λ_ _ _ _ h1 g=>h1.step (g.op hs))
include hi
end
def Lf (E:Nat→Nat→Prop)(x y a b:Nat):Prop:=E a b∧¬Kl E x y a b∧¬Kl E x y b a
section
variable {E : Nat → Nat → Prop} (hs : ∀ a b, E a b → E b a) (hi : ∀ a, ¬ E a a)
include hs hi
theorem Lf.sym {x y:Nat}(a b:Nat)(h:Lf E x y a b):Lf E x y b a:=⟨hs _ _ h.1,h.2.2,h.2.1⟩
end
end Go.Sx

namespace Go.Sx
structure Orn (E T:Nat→Nat→Prop):Prop where
 sub:∀a b,T a b→E a b
 all:∀a b,E a b→T a b∨T b a
 one:∀a b,T a b→¬T b a
 trn:∀a b c,T a b→T b c→T a c
section
variable {E : Nat → Nat → Prop} (hs : ∀ a b, E a b → E b a) (hi : ∀ a, ¬ E a a)
include hs
include hi
end
end Go.Sx

namespace Go.Sx
def AdW (g:LL)(all:Int)(a b:Nat):Prop:=adj g a b∧has all b=true
def Dst (g:LL)(all:Int)(v j u:Nat):Prop:=Nr (AdW g all) v (j+1) u∧¬Nr (AdW g all) v j u
structure FarOk (g:LL)(all:Int)(v:Nat)(far:LI):Prop where
 len:far.length=g.length
 val:∀u,u<g.length→(∃j:Nat,far.getD u 0=(j:Int)∧Dst g all v j u)∨(far.getD u 0= -1∧∀k,¬Nr (AdW g all) v k u)
section
variable {g : LL} (hg : GOk g)
include hg
theorem NrW.lt {all:Int}{v:Nat}(hv:v<g.length):∀{k u:Nat},Nr (AdW g all) v k u→u<g.length
 |0,_,h=>h.elim
 |k+1,u,h=>by
  rcases h with rfl|⟨w,h1,h2⟩
  ·exact hv
  ·exact hg.lt (NrW.lt hv h1) h2.1
end
end Go.Sx

namespace Go.Sx
def Av (ad:Nat→Nat→Prop)(X:Nat→Prop)(c z:Nat):Prop:=X z∧z≠c∧¬ad c z
def Apt (ad:Nat→Nat→Prop)(X:Nat→Prop)(a b c:Nat):Prop:=
 X a∧X b∧X c∧a≠b∧a≠c∧b≠c∧¬ad a b∧¬ad a c∧¬ad b c∧Cn ad (Av ad X c) a b∧Cn ad (Av ad X b) a c∧Cn ad (Av ad X a) b c
def Ape (ad:Nat→Nat→Prop)(X S:Nat→Prop)(a b:Nat):Prop:=
 X a∧X b∧a≠b∧¬ad a b∧(∃k,S k∧Cn ad (Av ad X b) a k)∧∃k,S k∧Cn ad (Av ad X a) b k
structure Rp (ad:Nat→Nat→Prop)(X:Nat→Prop)(L R:Nat→Int):Prop where
 le:∀v,X v→L v≤R v
 ad:∀u v,X u→X v→u≠v→(ad u v↔L u≤R v∧L v≤R u)
structure RpE (ad:Nat→Nat→Prop)(X S:Nat→Prop)(L R:Nat→Int)(B:Int):Prop where
 rp:Rp ad X L R
 lo:∀v,X v→-B≤L v
 s:∀v,X v→S v→R v=0
 x:∀v,X v→¬S v→R v<0
theorem RpE.hi {ad:Nat→Nat→Prop}{X S:Nat→Prop}{L R:Nat→Int}{B:Int}(h:RpE ad X S L R B){v:Nat}(hv:X v):R v≤0:=by
 by_cases hs:S v
 ·exact Int.le_of_eq (h.s v hv hs)
 ·exact Int.le_of_lt (h.x v hv hs)
section
variable {ad : Nat → Nat → Prop} (hs : ∀ a b, ad a b → ad b a)
include hs
end
end Go.Sx

namespace Go.Sx
structure Hg (ad:Nat→Nat→Prop)(X S:Nat→Prop):Prop where
 fin:∃l:List Nat,∀x,X x→x∈l
 sub:∀s,S s→X s
 clq:∀s t,S s→S t→s≠t→ad s t
 nh:NoHole ad X
 at3:∀a b c,¬Apt ad X a b c
 ae:∀a b,¬Ape ad X S a b
section
variable {ad : Nat → Nat → Prop}
theorem Eb {X X':Nat→Prop}(h:∀v,X' v→X v){a b c:Nat}(hp:Cn ad (Av ad X' c) a b):Cn ad (Av ad X c) a b:=hp.mono λw ⟨p,q,r⟩=>⟨h w p,q,r⟩
theorem Apt.mono {X X':Nat→Prop}(h:∀v,X' v→X v){a b c:Nat}:Apt ad X' a b c→Apt ad X a b c:=
 fun⟨h1,h2,h3,h4,h5,h6,h7,h8,h9,p,q,r⟩=>⟨h a h1,h b h2,h c h3,h4,h5,h6,h7,h8,h9,Eb h p,Eb h q,Eb h r⟩
theorem Hg.mono {X S X' S':Nat→Prop}(g:Hg ad X S)(hX:∀v,X' v→X v)(hS:∀v,S' v→S v)(hS':∀v,S' v→X' v):Hg ad X' S':=by
 obtain⟨l,hl⟩:=g.fin
 refine⟨⟨l,λx hx=>hl x (hX x hx)⟩,hS',λs t p q=>g.clq s t (hS s p) (hS t q),λc hc hx=>g.nh c hc (λx h=>hX x (hx x h)),λa b c h=>g.at3 a b c (h.mono hX),λa b ⟨h1,h2,h3,h4,⟨k,k1,k2⟩,k',k3,k4⟩=>g.ae a b ⟨hX a h1,hX b h2,h3,h4,⟨k,hS k k1,Eb hX k2⟩,k',hS k' k3,Eb hX k4⟩⟩
variable (hs : ∀ a b, ad a b → ad b a) (hi : ∀ a, ¬ ad a a)
include hs
include hi
end
section
variable {ad : Nat → Nat → Prop} (hs : ∀ a b, ad a b → ad b a) (hi : ∀ a, ¬ ad a a)
include hs
include hi
end
end Go.Sx

namespace Go.Sx
section
variable {g : LL} (hg : GOk g)
include hg
structure PW (g:LL)(W:Nat→Prop)(u v:Nat)(P:List Nat):Prop where
 ne:1≤P.length
 fst:P[0]'(by omega)=u
 lst:P[P.length-1]'(by omega)=v
 inW:∀x∈P,W x
 step:∀i (h:i+1<P.length),adj g P[i] P[i+1]
 short:P.length≤g.length
end
end Go.Sx

namespace Go.Sx
structure Pth (g:LL)(P:List Nat):Prop where
 ne:1≤P.length
 gd:Gd g 1000 P
 low:∀i (h:i<P.length) (h0:0<i),P[0]'(by omega)<P[i]
def Bst (g:LL)(b:LI):Prop:=b=[]∨∃c,b=iz c∧Hole (adj g) c∧∀x∈c,x<g.length
section
variable {g : LL} (hg : GOk g)
include hg
theorem nodup_bound {c:List Nat}(hnd:c.Nodup)(hlt:∀x∈c,x<g.length):c.length≤g.length:=by
 have:=Bq (l:=iz c) (m:=(List.range g.length).map Int.ofNat) (by
  unfold iz
  exact List.pairwise_map.2 (hnd.imp (λh h'=>h (Int.ofNat.inj h')))) (λx hx=>by
  unfold iz at hx
  obtain⟨v,hv,rfl⟩:=List.mem_map.1 hx
  exact List.mem_map.2 ⟨v,List.mem_range.2 (hlt v hv),rfl⟩)
 rw[Bv] at this
 simpa using this
theorem Bst.len {b:LI}(h:Bst g b):b.length≤16:=by
 rcases h with rfl|⟨c,rfl,h1,h2⟩
 ·simp
 ·rw[Bv]
  have:=nodup_bound hg h1.nd h2
  have:=hg.n16
  omega
end
end Go.Sx

namespace Go.Sx
section
variable {g : LL} (hg : GOk g)
include hg
end
end Go.Sx

namespace Go.Sx
section
variable {ad : Nat → Nat → Prop} (hs : ∀ a b, ad a b → ad b a) (hi : ∀ a, ¬ ad a a)
include hs hi
end
end Go.Sx

namespace Go.Sx
section
variable {ad : Nat → Nat → Prop} {X : Nat → Prop} {L R : Nat → Int} (h : Rp ad X L R)
include h
end
end Go.Sx

namespace Go.Sx
theorem Goes.nat {cs:LI}:∀{o:LI} {p:Int},Goes cs p o→∀x∈o,∃k:Nat,x=(k:Int)∧k<cs.length
 |[],_,_,x,hx=>by simp at hx
 |y::o,p,⟨k,e,hF,hG⟩,x,hx=>by
  rcases List.mem_cons.1 hx with rfl|hx
  ·exact⟨k,e,hF.1⟩
  ·exact Goes.nat hG x hx
theorem Goes.mem {cs:LI}(hm:cs.length≤16):∀{o:LI} {p:Int},VS p→Goes cs p o→∀i,i<cs.length→has p i=true∨(i:Int)∈o
 |[],_,_,h,i,hi=> .inl (h i hi)
 |y::o,p,hp,⟨k,e,hF,hG⟩,i,hi=>by
  have hk:=hF.1
  rcases Goes.mem hm (VS.ior _ _) hG i hi with h|h
  ·rw[B9 hp (VS.ishl _ _),Bx (by omega),Bool.or_eq_true,decide_eq_true_eq] at h
   rcases h with h|rfl
   ·exact .inl h
   ·exact .inr (by rw[e];simp)
  ·exact .inr (List.mem_cons_of_mem _ h)
def atp (cs o:LI)(k v:Nat):Bool:=ch cs (o.getD k 0).toNat v
theorem Goes.conv {cs o:LI}{v i j k:Nat}(hm:cs.length≤16)(h:Goes cs 0 o)(hij:i<j)(hjk:j<k)(hk:k<o.length)(h1:atp cs o i v=true)(h2:atp cs o k v=true):atp cs o j v=true:=by
 have hj:j<o.length:=by omega
 have hi:i<o.length:=by omega
 obtain⟨a,ea,_⟩:=h.nat _ (List.getElem_mem hi)
 obtain⟨b,eb,_⟩:=h.nat _ (List.getElem_mem hj)
 obtain⟨c,ec,_⟩:=h.nat _ (List.getElem_mem hk)
 unfold atp at*
 rw[AA hi,ea,Int.toNat_natCast] at h1
 rw[AA hk,ec,Int.toNat_natCast] at h2
 rw[AA hj,eb,Int.toNat_natCast]
 have e:o=o.take j++(b:Int)::o.drop (j+1):=by
  rw[←eb,←List.drop_eq_getElem_cons hj,List.take_append_drop]
 rw[e] at h
 refine h.mid hm ⟨VS.zero,λv hv=>by rw[BE] at hv;cases hv⟩ (.inr ⟨a,?_,h1⟩) ⟨c,?_,h2⟩
 ·rw[←ea]
  exact List.mem_take_iff_getElem.2 ⟨i,by omega,rfl⟩
 ·rw[←ec,List.mem_drop_iff_getElem]
  exact⟨k-(j+1),by omega,by congr 1;omega⟩
structure Told (cs o:LI)(v:Nat)(a b:Int):Prop where
 ex:∃i j:Nat,a=(i:Int)∧b=(j:Int)∧i≤j∧j<o.length∧atp cs o i v=true∧atp cs o j v=true∧∀k,k<o.length→atp cs o k v=true→i≤k∧k≤j
theorem Told.at {cs o:LI}{v:Nat}{a b:Int}(hm:cs.length≤16)(h:Goes cs 0 o)(ht:Told cs o v a b){k:Nat}(h1:a≤k)(h2:(k:Int)≤b):k<o.length∧atp cs o k v=true:=by
 obtain⟨i,j,rfl,rfl,hij,hj,hi1,hj1,_⟩:=ht.ex
 refine⟨by omega,?_⟩
 by_cases e1:k=i
 ·rw[e1];exact hi1
 by_cases e2:k=j
 ·rw[e2];exact hj1
 exact h.conv hm (show i<k by omega) (show k<j by omega) hj hi1 hj1
section
variable {g : LL} (hg : GOk g) {l o : LI} (hl : GC g l) (h16 : l.length ≤ 16) (ho : Goes l 0 o)
include hg hl
include h16 ho
end
end Go.Sx

namespace Go.Sx
section
variable {g l : LL} {cs : LI} (hg : GOk g)
include hg
end
end Go.Sx

namespace Go.Sx
inductive Pick (n:Nat):Nat→Nat→Int→Int→Prop
 |done {a:Nat} {c:Int}:Pick n a 0 c c
 |more {a k v:Nat} {c t:Int}:a≤v→v<n→Pick n (v+1) k (ior .u32 c (ishl .u32 1 (v:Int))) t→Pick n a (k+1) c t
theorem Pick.le {n a k:Nat}{c t:Int}(h:Pick n a k c t):k=0∨a+k≤n:=by
 induction h with
 |done=>exact .inl rfl
 |more h1 h2 _ ih=>right;rcases ih with h|h<;>omega
theorem chR_ok {f:Int→Int→Option (Bool×Int)}{n:Nat}(hn:n≤16)(F:Int→Bool)(hf:∀c s,VS c→(∀v,has c v=true→v<n)→f c s=some (F c,c)):
  ∀(k fuel a:Nat) (c s:Int),k<fuel→k≤16→VS c→(∀v,has c v=true→v<n)→a≤n+1→∃r,D.C f fuel (n:Int) (a:Int) (k:Int) c s=some r∧(r.1=true↔∃t,Pick n a k c t∧F t=true)∧(r.1=true→Pick n a k c r.2∧F r.2=true):=by
 intro k
 induction k with
 |zero=>
  intro fuel a c s hk _ hc hcn _
  obtain⟨m,rfl⟩:∃m,fuel=m+1:=⟨fuel-1,by omega⟩
  refine⟨(F c,c),?_,⟨λh=>⟨c,.done,h⟩,?_⟩,λh=>⟨.done,h⟩⟩
  ·unfold D.C
   simp only[Int.natCast_zero,beq_self_eq_true,cond_true,hf c s hc hcn]
  ·rintro⟨t,ht,h⟩
   cases ht
   exact h
 |succ k ih=>
  intro fuel a c s hk hk16 hc hcn ha
  obtain⟨m,rfl⟩:∃m,fuel=m+1:=⟨fuel-1,by omega⟩
  unfold D.C
  have h0:(((k+1:Nat):Int)==0)=false:=by rw[beq_eq_false_iff_ne];omega
  rw[h0,cond_false]
  have key:∀(d a:Nat) (s:Int),a+d=n+1→∃r,Ar (D.h0 (D.C f m) (n:Int) ((k+1:Nat):Int) c) (s,(a:Int))=some r∧(r.1=true↔∃t,Pick n a (k+1) c t∧F t=true)∧(r.1=true→Pick n a (k+1) c r.2∧F r.2=true):=by
   intro d
   induction d with
   |zero=>
    intro a s hd
    refine⟨(false,s),Bt ?_,⟨by simp,?_⟩,by simp⟩
    ·unfold D.h0
     have:decide (IntKind.i64.wrap ((a:Int)+((k+1:Nat):Int))≤(n:Int))=false:=by rw[w64 (by omega) (by omega)];simp;omega
     simp only[this,cond_false]
    ·rintro⟨t,ht,_⟩
     have:=ht.le
     omega
   |succ d ihd=>
    intro a s hd
    by_cases hle:a+(k+1)≤n
    ·have hdec:decide (IntKind.i64.wrap ((a:Int)+((k+1:Nat):Int))≤(n:Int))=true:=by rw[w64 (by omega) (by omega)];simp;omega
     have hone:=Bx (v:=a) (by omega)
     have hc':VS (ior .u32 c (ishl .u32 1 (a:Int))):=VS.ior _ _
     have hcn':∀v,has (ior .u32 c (ishl .u32 1 (a:Int))) v=true→v<n:=λv hv=>by
      rw[B9 hc (VS.ishl _ _),hone,Bool.or_eq_true,decide_eq_true_eq] at hv
      rcases hv with hv|rfl
      ·exact hcn v hv
      ·omega
     obtain⟨r,e,hr1,hr2⟩:=ih m (a+1) _ s (by omega) (by omega) hc' hcn' (by omega)
     have ek:IntKind.i64.wrap (((k+1:Nat):Int)-1)=(k:Int):=by rw[w64 (by omega) (by omega)];omega
     have hst:D.h0 (D.C f m) (n:Int) ((k+1:Nat):Int) c (s,(a:Int))=cond r.1 (some (.inr (true,r.2))) (some (.inl (r.2,((a+1:Nat):Int)))):=by
      unfold D.h0
      simp only[hdec,cond_true,BT,bs,wq a,ek,e]
     cases hb:r.1
     ·rw[hb,cond_false] at hst
      obtain⟨r',e',h1,h2⟩:=ihd (a+1) r.2 (by omega)
      refine⟨r',by rw[B4 hst,e'],?_,λhr=> ?_⟩
      ·rw[h1]
       constructor
       ·rintro⟨t,ht,hF⟩
        cases ht with
        |more p1 p2 p3=>exact⟨t,.more (by omega) p2 p3,hF⟩
       ·rintro⟨t,ht,hF⟩
        cases ht with
        | @more _ _ v _ _ p1 p2 p3=>
         by_cases hva:v=a
         ·subst hva
          have:=hr1.2 ⟨t,p3,hF⟩
          rw[hb] at this;cases this
         ·exact⟨t,.more (by omega) p2 p3,hF⟩
      ·obtain⟨p,hF⟩:=h2 hr
       cases p with
       |more p1 p2 p3=>exact⟨.more (by omega) p2 p3,hF⟩
     ·rw[hb,cond_true] at hst
      obtain⟨p,hF⟩:=hr2 hb
      exact⟨(true,r.2),Bt hst,⟨λ_=>⟨r.2,.more (Nat.le_refl _) (by omega) p,hF⟩,λ_=>rfl⟩,λ_=>⟨.more (Nat.le_refl _) (by omega) p,hF⟩⟩
    ·refine⟨(false,s),Bt ?_,⟨by simp,?_⟩,by simp⟩
     ·unfold D.h0
      have:decide (IntKind.i64.wrap ((a:Int)+((k+1:Nat):Int))≤(n:Int))=false:=by rw[w64 (by omega) (by omega)];simp;omega
      simp only[this,cond_false]
     ·rintro⟨t,ht,_⟩
      have:=ht.le
      omega
  exact key (n+1-a) a s (by omega)
def Cr (a b:Int):LI:=[min a b,max a b]
structure KOk (n:Nat)(K:LL):Prop where
 nd:K.Nodup
 lk:∀l∈K,LinkIn n l
theorem LinkIn.good {n:Nat}(hn:n≤1000){l:LI}(h:LinkIn n l):rowGood l:=by
 obtain⟨a,b,rfl,h1,h2⟩:=h
 refine⟨rfl,?_⟩
 simp only[List.getD_cons_zero,List.getD_cons_succ]
 omega
theorem KOk.len {n:Nat}(hn:n≤16){K:LL}(h:KOk n K):K.length≤256:=by
 have h1:(K.map D6).Nodup:=by
  unfold List.Nodup
  rw[List.pairwise_map]
  refine List.Pairwise.imp_of_mem (fun{a b} ha hb hab e=> ?_) h.nd
  exact hab (row_inj ((h.lk a ha).good (by omega)) ((h.lk b hb).good (by omega)) e)
 have h2:=Bq (m:=(List.range 16).flatMap (λa=>(List.range 16).map λb=>((a:Nat):Int)*1048576+((b:Nat):Int))) h1 (λx hx=>by
  obtain⟨l,hl,rfl⟩:=List.mem_map.1 hx
  obtain⟨a,b,rfl,h3,h4⟩:=h.lk l hl
  exact List.mem_flatMap.2 ⟨a,List.mem_range.2 (by omega),List.mem_map.2 ⟨b,List.mem_range.2 (by omega),rfl⟩⟩)
 have h3:((List.range 16).flatMap (λa=>(List.range 16).map λb=>((a:Nat):Int)*1048576+((b:Nat):Int))).length=256:=by decide+kernel
 rw[h3,List.length_map] at h2
 exact h2
def WayP (K:LL)(a b:Int):Prop:=∀T:Int→Prop,T a→(∀x y,T x→Lk K x y→T y)→T b
theorem Lk.perm {K K':LL}(h:K.Perm K'){x y:Int}:Lk K x y↔Lk K' x y:=by
 unfold Lk;rw[h.mem_iff,h.mem_iff]
theorem WayP.perm {K K':LL}(h:K.Perm K'){a b:Int}:WayP K a b↔WayP K' a b:=by
 unfold WayP
 constructor
 ·intro hh T h1 h2;exact hh T h1 (λx y hx hl=>h2 x y hx ((Lk.perm h).1 hl))
 ·intro hh T h1 h2;exact hh T h1 (λx y hx hl=>h2 x y hx ((Lk.perm h).2 hl))
structure NetL (A:LI)(n:Nat)(K:LL):Prop where
 net:Net A n
 nb:∀x y,x<n→y<n→(nb A x y=true↔Lk K (x:Int) (y:Int))
end Go.Sx



namespace Go.Sx
theorem EB {i k:Nat}(h:i<k):Cr (i:Int) (k:Int)=[(i:Int),(k:Int)]:=by
 unfold Cr
 rw[show min (i:Int) (k:Int)=i by omega,show max (i:Int) (k:Int)=k by omega]
theorem KOk.add {n i k:Nat}{K:LL}(h:KOk n K)(hik:i<k)(hk:k<n)(hw:¬WayP K (i:Int) (k:Int)):KOk n (K++[Cr (i:Int) (k:Int)]):=by
 have hnot:Cr (i:Int) (k:Int)∉K:=λhm=>hw (λT h1 h2=>h2 _ _ h1 (.inl (by rw[EB hik] at hm;exact hm)))
 refine⟨?_,λl hl=> ?_⟩
 ·have hp:(K++[Cr (i:Int) (k:Int)]).Perm (Cr (i:Int) (k:Int)::K):=List.perm_append_comm
  exact hp.nodup_iff.2 (List.nodup_cons.2 ⟨hnot,h.nd⟩)
 ·rcases List.mem_append.1 hl with hl|hl
  ·exact h.lk l hl
  ·simp at hl;subst hl
   exact⟨i,k,EB hik,hik,hk⟩
theorem NetL.add {A A':LI}{n i k:Nat}{K:LL}(h:NetL A n K)(hik:i<k)(hk:k<n)(hA:Net A' n)(hnb:∀u w,u<n→Sx.nb A' u w=(Sx.nb A u w||(decide (u=i)&&decide (w=k))||(decide (u=k)&&decide (w=i)))):NetL A' n (K++[Cr (i:Int) (k:Int)]):=by
 refine⟨hA,λx y hx hy=> ?_⟩
 rw[hnb x y hx,EB hik]
 simp only[Bool.or_eq_true,Bool.and_eq_true,decide_eq_true_eq]
 rw[h.nb x y hx hy]
 unfold Lk
 simp only[List.mem_append,List.mem_singleton,List.cons.injEq,and_true,Int.natCast_inj]
 constructor
 ·rintro((h1|h1)|⟨h1,h2⟩)
  ·exact h1.elim (λh=> .inl (.inl h)) (λh=> .inr (.inl h))
  ·exact .inl (.inr h1)
  ·exact .inr (.inr ⟨h2,h1⟩)
 ·rintro((h1|h1)|(h1|⟨h1,h2⟩))
  ·exact .inl (.inl (.inl h1))
  ·exact .inl (.inr h1)
  ·exact .inl (.inl (.inr h1))
  ·exact .inr ⟨h2,h1⟩
section
variable {l : LI} (hn : l.length ≤ 16) (hvs : ∀ s ∈ l, VS s)
include hn hvs
end
section
variable {g : LL} (hg : GOk g)
include hg
end
end Go.Sx

namespace Go.Sx
section
variable {g : LL} (hg : GOk g)
include hg
end
end Go.Sx

namespace Go.Sx
def canR (R:Nat→Nat→Prop)(S:Nat→Prop)(v:Nat):Prop:=
 (∀w,S w→¬R v w)∨∃u,u≠v∧S u∧((∀w,S w→(R v w↔w=u))∨(¬R v u∧∀w,S w→(R v w↔R u w))∨(R v u∧∀w,S w→w≠u→w≠v→(R v w↔R u w)))
def Elim (R:Nat→Nat→Prop):Nat→(Nat→Prop)→Prop
 |0,S=>∀w,¬S w
 |k+1,S=>∃v,S v∧canR R S v∧Elim R k (λw=>S w∧w≠v)
theorem Elim.iso {R R':Nat→Nat→Prop}(f:Nat→Nat):∀(k:Nat) (S S':Nat→Prop),Elim R k S→(∀w,S w→S' (f w))→(∀w',S' w'→∃w,S w∧f w=w')→(∀u w,S u→S w→f u=f w→u=w)→(∀u w,S u→S w→(R' (f u) (f w)↔R u w))→Elim R' k S'
 |0,S,S',h,_,h2,_,_=>λw' hw'=>by
  obtain⟨w,hw,_⟩:=h2 w' hw'
  exact h w hw
 |k+1,S,S',h,h1,h2,h3,h4=>by
  obtain⟨v,hv,hc,he⟩:=h
  refine⟨f v,h1 v hv,?_,Elim.iso f k _ _ he (λw hw=>⟨h1 w hw.1,λe=>hw.2 (h3 w v hw.1 hv e)⟩) (λw' hw'=> ?_) (λu w hu hw=>h3 u w hu.1 hw.1) (λu w hu hw=>h4 u w hu.1 hw.1)⟩
  ·rcases hc with hc|⟨u,hu,hSu,hc⟩
   ·refine .inl λw' hw'=> ?_
    obtain⟨w,hw,rfl⟩:=h2 w' hw'
    rw[h4 v w hv hw];exact hc w hw
   ·refine .inr ⟨f u,λe=>hu (h3 u v hSu hv e),h1 u hSu,?_⟩
    rcases hc with hc|⟨hn,hc⟩|⟨hn,hc⟩
    ·refine .inl λw' hw'=> ?_
     obtain⟨w,hw,rfl⟩:=h2 w' hw'
     rw[h4 v w hv hw,hc w hw]
     exact⟨λe=>by rw[e],λe=>h3 w u hw hSu e⟩
    ·refine .inr (.inl ⟨λh=>hn ((h4 v u hv hSu).1 h),λw' hw'=> ?_⟩)
     obtain⟨w,hw,rfl⟩:=h2 w' hw'
     rw[h4 v w hv hw,h4 u w hSu hw];exact hc w hw
    ·refine .inr (.inr ⟨(h4 v u hv hSu).2 hn,λw' hw' hwu hwv=> ?_⟩)
     obtain⟨w,hw,rfl⟩:=h2 w' hw'
     rw[h4 v w hv hw,h4 u w hSu hw]
     exact hc w hw (λe=>hwu (by rw[e])) (λe=>hwv (by rw[e]))
  ·obtain⟨w,hw,rfl⟩:=h2 w' hw'.1
   exact⟨w,⟨hw,λe=>hw'.2 (by rw[e])⟩,rfl⟩
theorem Elim.congr {R R':Nat→Nat→Prop}{k:Nat}{S S':Nat→Prop}(h:Elim R k S)(hS:∀w,S w↔S' w)(hR:∀u w,S u→S w→(R' u w↔R u w)):Elim R' k S':=
 Elim.iso id k S S' h (λw hw=>(hS w).1 hw) (λw hw=>⟨w,(hS w).2 hw,rfl⟩) (λ_ _ _ _ e=>e) hR
def Dk (F:LI)(p:Pr):Int:=if p.2.2=2 then ishl .u32 1 p.2.1 else if p.2.2=3 then F.getD p.2.1.toNat 0 else if p.2.2=4 then ior .u32 (F.getD p.2.1.toNat 0) (ishl .u32 1 p.2.1) else 0
def Fs (n:Nat):List Pr→LI
 |[]=>List.replicate n 0
 |p::l=>DB n (Fs n l) p.1.toNat (Dk (Fs n l) p)
def vsOf (l:List Pr):LI:=l.map (·.1)
structure GI (n:Nat)(l:List Pr)(s:Int):Prop where
 f:FOk (Fs n l) n
 i:In n s
 mem:∀w:Nat,has s w=true↔(w:Int)∈vsOf l
 thr:∀u w,u<n→nb (Fs n l) u w=true→has s u=true∧has s w=true
 nonneg:∀x∈vsOf l,0≤x
theorem GI.nil (n:Nat):GI n [] 0:=by
 have hz:∀u,(List.replicate n (0:Int)).getD u 0=0:=λu=>by
  rw[List.getD_eq_getElem?_getD,List.getElem?_replicate];split<;>rfl
 have hn:∀u w,nb (List.replicate n (0:Int)) u w=false:=λu w=>by unfold nb;rw[hz,BE]
 exact⟨⟨by simp[Fs],λu _=>by show VS ((List.replicate n (0:Int)).getD u 0);rw[hz];exact VS.zero,λu w _ h=>(by rw[show nb (Fs n []) u w=false from hn u w] at h;cases h),λu _=>hn u u,λu w _ h=>(by rw[show nb (Fs n []) u w=false from hn u w] at h;cases h)⟩,
  ⟨VS.zero,λw h=>(by rw[BE] at h;cases h)⟩,λw=>(by rw[BE];simp[vsOf]),λu w _ h=>(by rw[show nb (Fs n []) u w=false from hn u w] at h;cases h),by simp[vsOf]⟩
def needs (k:Int):Prop:=k=2∨k=3∨k=4
theorem near_ok {n:Nat}(hn:n≤16){l:List Pr}{s:Int}(h:GI n l s){p:Pr}(hby:needs p.2.2→∃b:Nat,p.2.1=b∧has s b=true):In n (Dk (Fs n l) p)∧∀w,has (Dk (Fs n l) p) w=true→has s w=true:=by
 have key:VS (Dk (Fs n l) p)∧∀w,has (Dk (Fs n l) p) w=true→has s w=true:=by
  unfold Dk
  by_cases k2:p.2.2=2
  ·obtain⟨b,e,hb⟩:=hby (.inl k2)
   have:=h.i.2 b hb
   rw[if_pos k2,e]
   refine⟨VS.ishl _ _,λw hw=> ?_⟩
   rw[Bx (by omega)] at hw
   rw[of_decide_eq_true hw];exact hb
  ·rw[if_neg k2]
   by_cases k3:p.2.2=3
   ·obtain⟨b,e,hb⟩:=hby (.inr (.inl k3))
    have hbn:=h.i.2 b hb
    rw[if_pos k3,e,Int.toNat_natCast]
    exact⟨h.f.vs b hbn,λw hw=>(h.thr b w hbn hw).2⟩
   ·rw[if_neg k3]
    by_cases k4:p.2.2=4
    ·obtain⟨b,e,hb⟩:=hby (.inr (.inr k4))
     have hbn:=h.i.2 b hb
     rw[if_pos k4,e,Int.toNat_natCast]
     refine⟨VS.ior _ _,λw hw=> ?_⟩
     rw[B9 (h.f.vs b hbn) (VS.ishl _ _),Bx (by omega),Bool.or_eq_true] at hw
     rcases hw with hw|hw
     ·exact(h.thr b w hbn hw).2
     ·rw[of_decide_eq_true hw];exact hb
    ·rw[if_neg k4]
     exact⟨VS.zero,λw hw=>by rw[BE] at hw;cases hw⟩
 exact⟨⟨key.1,λw hw=>h.i.2 w (key.2 w hw)⟩,key.2⟩
theorem GI.step {n:Nat}(hn:n≤16){l:List Pr}{s:Int}(h:GI n l s){p:Pr}{v:Nat}(e:p.1=v)(hv:v<n)(hsv:has s v=false)(hby:needs p.2.2→∃b:Nat,p.2.1=b∧has s b=true):
  GI n (p::l) (ior .u32 s (ishl .u32 1 (v:Int)))∧Fs n (p::l)=DB n (Fs n l) v (Dk (Fs n l) p)∧has (Dk (Fs n l) p) v=false∧∀w,nb (Fs n l) v w=false:=by
 obtain⟨hS,hSs⟩:=near_ok hn h hby
 have hSv:has (Dk (Fs n l) p) v=false:=by
  rw[Bool.eq_false_iff];intro hc;rw[hSs v hc] at hsv;cases hsv
 have eF:Fs n (p::l)=DB n (Fs n l) v (Dk (Fs n l) p):=by
  show DB n (Fs n l) p.1.toNat _=_
  rw[e,Int.toNat_natCast]
 have hh:∀w,has (ior .u32 s (ishl .u32 1 (v:Int))) w=(has s w||decide (w=v)):=λw=>by rw[B9 h.i.1 (VS.ishl _ _),Bx (by omega)]
 refine⟨⟨by rw[eF];exact joinF_ok hn h.f hS hv hSv,⟨VS.ior _ _,λw hw=> ?_⟩,λw=> ?_,λu w hu hw=> ?_,λx hx=> ?_⟩,eF,hSv,λw=> ?_⟩
 ·rw[hh,Bool.or_eq_true,decide_eq_true_eq] at hw
  rcases hw with hw|hw
  ·exact h.i.2 w hw
  ·omega
 ·rw[hh,Bool.or_eq_true,decide_eq_true_eq,h.mem]
  unfold vsOf
  rw[List.map_cons,List.mem_cons,e]
  constructor
  ·rintro(hw|hw)
   ·exact .inr hw
   ·exact .inl (by omega)
  ·rintro(hw|hw)
   ·exact .inr (by omega)
   ·exact .inl hw
 ·rw[eF,Dg hn h.f hS hv hu] at hw
  simp only[hh,Bool.or_eq_true,Bool.and_eq_true,decide_eq_true_eq] at hw ⊢
  rcases hw with(hw|hw)|hw
  ·have:=h.thr u w hu hw
   exact⟨.inl this.1,.inl this.2⟩
  ·exact⟨.inr hw.1,.inl (hSs w hw.2)⟩
  ·exact⟨.inl (hSs u hw.1),.inr hw.2⟩
 ·unfold vsOf at hx
  rw[List.map_cons,List.mem_cons,e] at hx
  rcases hx with rfl|hx
  ·omega
  ·exact h.nonneg x hx
 ·rw[Bool.eq_false_iff];intro hc
  rw[(h.thr v w hv hc).1] at hsv;cases hsv
def Lsts (g:LL)(K:Int):Prop:=In g.length K∧(∀u w,has K u=true→has K w=true→¬adj g u w)∧∀w,w<g.length→has K w=true∨∃v,has K v=true∧adj g v w
structure LSt (g:LL)(l:LI):Prop where
 up:l.Pairwise (λa b=>skey a<skey b)
 mem:∀K,K∈l↔Lsts g K
theorem LSt.vs {g:LL}{l:LI}(h:LSt g l):∀s∈l,VS s:=λs hs=>((h.mem s).1 hs).1.1
theorem LSt.len {g:LL}{l:LI}(hg:GOk g)(h:LSt g l):l.length≤65536:=masks_len hg.n16 (λK hK=>((h.mem K).1 hK).1) (rise_nodup h.up)
theorem row_more (g:LL)(v:Nat):row (g++[[]]) v=row g v:=by
 unfold row
 rw[List.getD_eq_getElem?_getD,List.getD_eq_getElem?_getD]
 by_cases h:v<g.length
 ·rw[List.getElem?_append_left h]
 ·rw[List.getElem?_append_right (by omega),List.getElem?_eq_none (show g.length≤v by omega)]
  by_cases h2:v-g.length=0
  ·rw[h2];rfl
  ·rw[List.getElem?_eq_none (by simp;omega)]
theorem GOk.more {g:LL}(hg:GOk g)(h16:g.length<16):GOk (g++[[]]):=by
 have hl:(g++[[]]).length=g.length+1:=by simp
 have hadj:∀u v,adj (g++[[]]) u v↔adj g u v:=λu v=>by unfold adj;rw[row_more]
 have hn:∀u v,adj g u v→u<g.length:=λu v h=>by
  apply Classical.byContradiction
  intro hc
  unfold adj row at h
  rw[List.getD_eq_getElem?_getD,List.getElem?_eq_none (by omega)] at h
  simp at h
 refine⟨by omega,by omega,λv _=> ?_,λv _ h=> ?_,λu v _ h=> ?_⟩
 ·rw[row_more]
  by_cases hv:v<g.length
  ·exact⟨(hg.rows v hv).1,λx hx=>by have:=(hg.rows v hv).2 x hx;omega⟩
  ·unfold row
   rw[List.getD_eq_getElem?_getD,List.getElem?_eq_none (by omega)]
   exact⟨by simp[Inc],by simp⟩
 ·rw[hadj] at h;exact hg.irr v (hn v v h) h
 ·rw[hadj] at h ⊢;exact hg.sym u v (hn u v h) h
def AllGo (g:LL):Prop:=Elim (adj g) g.length (λw=>w<g.length)
theorem AllGo.add {g y:LL}(hg:GOk g)(h:AllGo g){x:LI}(hx:SetOf x (g.length:Int))(hl:y.length=g.length+1)
  (hA:∀u w:Nat,adj y u w↔adj g u w∨(u=g.length∧(w:Int)∈x)∨(w=g.length∧(u:Int)∈x)) (hc:canR (adj y) (λw=>w<g.length+1) g.length):AllGo y:=by
 unfold AllGo
 rw[hl]
 refine⟨g.length,by omega,hc,h.congr (λw=>⟨λh=>⟨by omega,by omega⟩,λh=>by omega⟩) (λu w hu hw=> ?_)⟩
 rw[hA]
 constructor
 ·rintro(h|⟨h,_⟩|⟨h,_⟩)
  ·exact h
  ·omega
  ·omega
 ·exact .inl
theorem l2Of_ok {g:LL}(hg:GOk g){L:LI}(h1:1≤L.length)(h16:L.length≤16)(hr:∀x∈L,0≤x∧x<g.length):
  ∃y,D.y0 g L=some y∧(GOk y∧y.length=L.length∧∀i j,adj y i j↔i<L.length∧j<L.length∧adj g (L.getD i 0).toNat (L.getD j 0).toNat):=by
 have hat:∀i (hi:i<L.length),∃v:Nat,L[i]=(v:Int)∧v<g.length∧(L.getD i 0).toNat=v:=λi hi=>by
  have:=hr _ (List.getElem_mem hi)
  exact⟨L[i].toNat,by omega,by omega,by rw[AA hi]⟩
 unfold D.y0
 rw[l1Empty_eq _ h16,bs]
 refine AS (λs=>∃v:Nat,s.1=(v:Int)∧v≤L.length∧GOk s.2∧s.2.length=L.length∧∀x y,adj s.2 x y↔(x<v∧y<v)∧adj g (L.getD x 0).toNat (L.getD y 0).toNat) (λs=>L.length-s.1.toNat)
  (λy=>GOk y∧y.length=L.length∧∀i j,adj y i j↔i<L.length∧j<L.length∧adj g (L.getD i 0).toNat (L.getD j 0).toNat) ?_ ⟨0,rfl,by omega,GOk.empty h1 h16,by simp,λx y=>⟨λh=> ?_,λh=>by omega⟩⟩ (λr hr=>⟨r,rfl,hr⟩)
 ·rintro⟨_,G⟩ ⟨v,rfl,hv,hG,hl,hA⟩
  dsimp only at hG hl hA ⊢
  by_cases hvn:v<L.length
  ·rw[dlt hvn,cond_true]
   obtain⟨a,ea,han,ea'⟩:=hat v hvn
   refine AS (λs=>∃t:Nat,s.1=(t:Int)∧t≤v∧GOk s.2∧s.2.length=L.length∧∀x y,adj s.2 x y↔((x<v∧y<v)∨(x=v∧y<t)∨(y=v∧x<t))∧adj g (L.getD x 0).toNat (L.getD y 0).toNat) (λs=>v-s.1.toNat)
    (λr=>GOk r∧r.length=L.length∧∀x y,adj r x y↔(x<v+1∧y<v+1)∧adj g (L.getD x 0).toNat (L.getD y 0).toNat) ?_ ⟨0,rfl,by omega,hG,hl,λx y=>by rw[hA];simp⟩ (λr hr=>⟨_,rfl,⟨v+1,wi (by omega),by omega,hr⟩,?_⟩)
   ·rintro⟨_,G⟩ ⟨t,rfl,ht,hG,hl,hA⟩
    dsimp only at hG hl hA ⊢
    by_cases htv:t<v
    ·have htL:t<L.length:=by omega
     obtain⟨b,eb,hbn,eb'⟩:=hat t htL
     rw[dlt htv,cond_true,Az hvn,bs,Az htL,bs,ea,eb,DS g hg han,bs,wq t]
     by_cases hc:(b:Int)∈row g a
     ·have c1:adj g a b:=hc
      have c2:adj g b a:=hg.sym a b han c1
      obtain⟨G',e,k1,k2,k3⟩:=l1Link_ok hG (u:=t) (v:=v) (by omega) (by omega) (by omega)
      rw[decide_eq_true hc,cond_true,e,bs]
      refine⟨_,rfl,⟨t+1,rfl,by omega,k1,by dsimp only;omega,λx y=> ?_⟩,by dsimp only;omega⟩
      dsimp only
      rw[k3,hA]
      constructor
      ·rintro(⟨h3,h4⟩|⟨rfl,rfl⟩|⟨rfl,rfl⟩)
       ·exact⟨by omega,h4⟩
       ·exact⟨by omega,by rw[ea',eb'];exact c2⟩
       ·exact⟨by omega,by rw[ea',eb'];exact c1⟩
      ·rintro⟨h3,h4⟩
       by_cases d1:x=v∧y=t
       ·exact .inr (.inr d1)
       ·by_cases d2:x=t∧y=v
        ·exact .inr (.inl d2)
        ·exact .inl ⟨by omega,h4⟩
     ·have c1:¬adj g a b:=hc
      have c2:¬adj g b a:=λh=>c1 (hg.sym b a hbn h)
      rw[decide_eq_false hc,cond_false]
      refine⟨_,rfl,⟨t+1,rfl,by omega,hG,hl,λx y=> ?_⟩,by dsimp only;omega⟩
      dsimp only
      rw[hA]
      constructor
      ·rintro⟨h3,h4⟩;exact⟨by omega,h4⟩
      ·rintro⟨h3,h4⟩
       refine⟨?_,h4⟩
       by_cases d1:x=v∧y=t
       ·obtain⟨rfl,rfl⟩:=d1
        rw[ea',eb'] at h4;exact absurd h4 c1
       ·by_cases d2:x=t∧y=v
        ·obtain⟨rfl,rfl⟩:=d2
         rw[ea',eb'] at h4;exact absurd h4 c2
        ·omega
    ·obtain rfl:t=v:=by omega
     simp only[Bm,cond_false]
     refine⟨_,rfl,hG,hl,λx y=> ?_⟩
     rw[hA]
     constructor
     ·rintro⟨h3,h4⟩;exact⟨by omega,h4⟩
     ·rintro⟨h3,h4⟩
      refine⟨?_,h4⟩
      by_cases d:x=t∧y=t
      ·obtain⟨rfl,rfl⟩:=d
       rw[ea'] at h4;exact absurd h4 (hg.irr a han)
      ·omega
   ·dsimp only
    rw[wi (by omega)];omega
  ·obtain rfl:v=L.length:=by omega
   simp only[Bm,cond_false]
   refine⟨_,rfl,hG,hl,λx y=> ?_⟩
   rw[hA,and_assoc]
 ·unfold adj row at h
  rw[List.getD_eq_getElem?_getD,List.getElem?_replicate] at h
  split at h<;>simp at h
def lf (xs:List (Int×Int))(v:Nat):Int:=(xs.getD v (0,0)).1
def rt (xs:List (Int×Int))(v:Nat):Int:=(xs.getD v (0,0)).2
def meetB (xs:List (Int×Int))(u v:Nat):Bool:=decide (lf xs u≤rt xs v)&&decide (lf xs v≤rt xs u)
structure IvL (xs:List (Int×Int)):Prop where
 n1:1≤xs.length
 n16:xs.length≤16
 ok:∀x∈xs,0≤x.1∧x.1≤x.2∧x.2≤100
def rowI (xs:List (Int×Int))(v m:Nat):LI:=((List.range m).filter λu=>decide (u≠v)&&meetB xs u v).map Int.ofNat
def gI (xs:List (Int×Int)):LL:=(List.range xs.length).map λv=>rowI xs v xs.length
theorem gI_len (xs:List (Int×Int)):(gI xs).length=xs.length:=by simp[gI]
theorem mem_rowI {xs:List (Int×Int)}{v m:Nat}{x:Int}:x∈rowI xs v m↔∃u:Nat,x=(u:Int)∧u<m∧u≠v∧meetB xs u v=true:=by
 unfold rowI
 simp only[List.mem_map,List.mem_filter,List.mem_range,Bool.and_eq_true,decide_eq_true_eq]
 constructor
 ·rintro⟨u,⟨h1,h2,h3⟩,rfl⟩;exact⟨u,rfl,h1,h2,h3⟩
 ·rintro⟨u,rfl,h1,h2,h3⟩;exact⟨u,⟨h1,h2,h3⟩,rfl⟩
theorem row_gI {xs:List (Int×Int)}{v:Nat}(hv:v<xs.length):row (gI xs) v=rowI xs v xs.length:=by
 unfold row gI
 rw[AA (by simpa using hv)];simp
theorem adj_gI {xs:List (Int×Int)}{v u:Nat}(hv:v<xs.length):adj (gI xs) v u↔u<xs.length∧u≠v∧meetB xs u v=true:=by
 unfold adj
 rw[row_gI hv,mem_rowI]
 constructor
 ·rintro⟨w,e,h⟩
  obtain rfl:u=w:=by omega
  exact h
 ·intro h;exact⟨u,rfl,h⟩
theorem meetB_comm (xs:List (Int×Int))(u v:Nat):meetB xs u v=meetB xs v u:=by unfold meetB;exact Bool.and_comm _ _
theorem rowI_inc (xs:List (Int×Int))(v m:Nat):Inc (rowI xs v m):=by
 unfold Inc rowI
 rw[List.pairwise_map]
 refine List.Pairwise.imp (fun{a b} h=>by show (a:Int)<(b:Int);omega) (List.Pairwise.filter _ List.pairwise_lt_range)
theorem gI_ok {xs:List (Int×Int)}(h1:1≤xs.length)(h16:xs.length≤16):GOk (gI xs):=by
 have hl:=gI_len xs
 refine⟨by omega,by omega,λv hv=> ?_,λv hv ha=> ?_,λu v hu ha=> ?_⟩
 ·rw[hl] at hv ⊢
  rw[row_gI hv]
  refine⟨rowI_inc _ _ _,λx hx=> ?_⟩
  obtain⟨u,rfl,h2,_⟩:=mem_rowI.1 hx
  omega
 ·rw[hl] at hv
  exact((adj_gI hv).1 ha).2.1 rfl
 ·rw[hl] at hu
  obtain⟨a,b,c⟩:=(adj_gI hu).1 ha
  exact(adj_gI a).2 ⟨hu,λe=>b e.symm,by rw[meetB_comm];exact c⟩
theorem IvL.g {xs:List (Int×Int)}(h:IvL xs):GOk (gI xs):=gI_ok h.n1 h.n16
theorem IvL.at {xs:List (Int×Int)}(h:IvL xs){v:Nat}(hv:v<xs.length):0≤lf xs v∧lf xs v≤rt xs v∧rt xs v≤100:=by
 unfold lf rt
 rw[AA hv]
 exact h.ok _ (List.getElem_mem hv)
section
variable {xs : List (Int × Int)} (h : IvL xs)
include h
end
end Go.Sx

namespace Go.Sx
section
variable {g : LL} (hg : GOk g) {l o : LI} (hl : GC g l) (h16 : l.length ≤ 16) (ho : Goes l 0 o) (hol : o.length ≤ 32)
include hg hl h16 ho hol
end
end Go.Sx

namespace Go.Sx
section
variable {g : LL} (hg : GOk g)
include hg
omit hg in
theorem Apt.swap {ad:Nat→Nat→Prop}{X:Nat→Prop}(hs:∀a b,ad a b→ad b a){a b c:Nat}(h:Apt ad X a b c):Apt ad X b a c:=by
 obtain⟨h1,h2,h3,n1,n2,n3,a1,a2,a3,p1,p2,p3⟩:=h
 exact⟨h2,h1,h3,n1.symm,n3,n2,λe=>a1 (hs _ _ e),a3,a2,Cn.sym hs ⟨h1,n2,λe=>a2 (hs _ _ e)⟩ p1,p3,p2⟩
end
end Go.Sx

namespace Go.Sx
section
variable {g : LL} (hg : GOk g)
include hg
end
end Go.Sx
