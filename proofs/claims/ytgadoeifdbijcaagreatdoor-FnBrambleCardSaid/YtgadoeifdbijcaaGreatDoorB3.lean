/- Parts. -/
import Derived.Test.YtgadoeifdbijcaaGreatDoorB2
import Derived.Test.YtgadoeifdbijcaaGreatDoorProg
import Derived.KernelRfl
set_option linter.unusedVariables false
set_option linter.unusedSimpArgs false
set_option maxRecDepth 100000
namespace Go.Proofs.YtgadoeifdbijcaaGreatDoor
open Go Go.Sx
open Go.Proofs.Tryz Go.Proofs.YtgadoeifdbijcaaGreatDoor.Tryz IntKind
variable {W w : World} {G : GH} {H : List Itm}
theorem T189 :SlT prog 189 4 1 1 (.bool false):=⟨underlying189,Tryz.t4,by kernel_rfl,by kernel_rfl,by kernel_rfl,by kernel_rfl⟩
theorem Pl4 :By prog 4:=isAgg4
theorem T245 :SlT prog 245 24 1 24 sn:=⟨underlying245,Tryz.t24,by kernel_rfl,by kernel_rfl,by kernel_rfl,by kernel_rfl⟩
theorem Wk.u {aa:Value}{ab:LL}(m:Mem W G w (H))(ac:R2 G aa ab){y:Bool}(hd:D.u ab=some y):
  Calls prog 11 #[(.agg #[aa])] w (Res W G H (λ_ Ho v=>Ho=[]∧v=(.bool y))):=by
 refine Ap (args:=[(.agg #[aa])]) (N:=64) [.tmp 2] func11 Z Z (lb Z) Z λa f=> ?_
 unfold D.u at hd
 refine Ae ?_
 refine A8 (cs:=[aa]) m f Z Z Z λad w a m f=>Ac f Z λa f=>Az ?_
 refine Aw 0 0 (ds:=[aa]) m AE f Z Z Z Z Z λa f=> ?_
 have⟨ae,af,hd⟩:=bind_some hd
 refine AR f Z call61 (Wk.b m ac af) λag w ah m a f=> ?_
 have ac:=rd2 ah ac
 refine Ac f Z λa f=>Aa (Ag (Ae ?_))
 refine Ab f Z λa f=> ?_
 have⟨ai,aj,hd⟩:=bind_some hd
 refine AR f Z call62 (Wk.d m aj) λak w al m a f=> ?_
 have ac:=rd2 al ac
 refine l_o f (Bc (f.e Z)) λa f=>Aa ?_
 rcases Af hd with⟨am,hd⟩|⟨am,hd⟩
 ·refine Al f Z am ?_
  refine Ae ?_
  refine Ac f Z λa f=>Aa ?_
  refine Ao ?_
  have m:Mem W ak w H:=Mem.drop (H':=[ib ad 26 [aa]]) m
  obtain rfl:=sj hd
  exact⟨[(.bool false)],f.g Z,f.d,_,[],(gt ah al),m,Z,Z⟩
 ·refine Ai f Z am ?_
  refine An ?_
  refine Ag (Ae ?_)
  refine Ac f Z λa f=>Aa ?_
  have⟨an,ao,hd⟩:=bind_some hd
  refine AM (λa w=>∃q_138':Unit,an= .inl q_138'∧∃(ap:GH),GLe ak ap∧Fr a 64 [(1,(pb ad)),(3,(iv ae))]∧Mem W ap w (ib ad 26 [aa]::H)) ?_ ?_
  ·refine Ak ?_
   refine AI (λaq a w=>∃ar:Int,ar=aq∧∃(au:GH),GLe ak au∧Fr a 64 [(1,(pb ad)),(3,(iv ae)),(4,(iv ar))]∧Mem W au w (ib ad 26 [aa]::H)) ao ⟨_,Z,_,gr,f.k Z,m⟩ ?_
   clear ao f m
   rintro aq av aw ax a w ⟨ar,rfl,au,ay,f,m⟩
   have ac:=rd2 ay ac
   refine Ag (Ae ?_)
   refine Ab f Z λa f=>Ab f Z λa f=>Aj f Z Z AP λa f=>Aa ?_
   rcases Af aw with⟨az,aw⟩|⟨az,aw⟩
   ·refine Al f Z az ?_
    refine An ?_
    refine Ag (Ak (Ae ?_))
    refine BQ underlying26 Z sizeOf24 f Z λa f=>AV 0 0 m BH f Z Z Z Z λa f=>Ab f Z λa f=> ?_
    have⟨aA,aB,aw⟩:=bind_some aw
    refine Be T24 f Z Z Z ac aB λaC aD a aE aF f=>AK m Br f Z Z aE λa f=>Ab f Z λa f=> ?_
    have⟨aG,aH,aw⟩:=bind_some aw
    refine AR f Z call63 (Wk.P m aF aH) λaI w aJ m a f=> ?_
    have ac:=rd2 aJ ac
    refine l_o f (Bc (f.e Z)) λa f=>Ab f Z λa f=> ?_
    have⟨aK,aL,aw⟩:=bind_some aw
    refine Bh 8 (λa w=>∃aM,GLe aI aM∧Mem W aM w (ib ad 26 [aa]::H)∧Fr a 64 [(1,(pb ad)),(3,(iv ae)),(4,(iv ar)),(14,(.bool (decide (ar<ae)))),(17,(pb ad)),(18,aa),(19,(iv ar)),(20,aC),(21,aD),(22,(iv ae)),(23,(.bool aG)),(24,(.bool (!aG))),(25,(.bool (!aG))),(33,(.bool aK))]) ?_ ?_
    ·rcases Af aL with⟨aN,aL⟩|⟨aN,aL⟩
     ·refine Au f aN λa f=> ?_
      refine Au f aN λa f=>Au f aN λa f=>Au f aN λa f=>Au f aN λa f=>Au f aN λa f=>Au f aN λa f=>l_o f (AW (f.e Z) aN (f.e Z)) λa f=> ?_
      obtain rfl:=sj aL
      exact⟨_,gr,m,f.k Z⟩
     ·refine As f aN ?_
      refine BQ underlying26 Z sizeOf24 f Z λa f=>As f aN ?_
      refine AV 0 0 m BH f Z Z Z Z λa f=>As f aN ?_
      refine Ab f Z λa f=>As f aN ?_
      have⟨aO,aP,aL⟩:=bind_some aL
      refine Be T24 f Z Z Z ac aP λaQ aR a aS aT f=>As f aN ?_
      refine AK m Br f Z Z aS λa f=>As f aN ?_
      refine Ab f Z λa f=>As f aN ?_
      have⟨aU,aV,aL⟩:=bind_some aL
      refine AR f Z call64 (Wk.e m aT aV) λaW w aX m a f=>l_o f (AX (f.e Z) aN (f.e Z)) λa f=> ?_
      obtain rfl:=sj aL
      exact⟨_,aX,m,f.k Z⟩
    ·rintro a w ⟨aM,aY,m,f⟩
     refine Aa ?_
     rcases Af aw with⟨aZ,aw⟩|⟨aZ,aw⟩
     ·refine Al f Z aZ ?_
      refine Ae ?_
      refine Ac f Z λa f=>Aa ?_
      refine Ao ?_
      have m:Mem W aM w H:=Mem.drop (H':=[ib ad 26 [aa]]) m
      obtain rfl:=sj aw
      obtain rfl:=ax _ rfl
      obtain rfl:=sj hd
      exact⟨[(.bool false)],f.g Z,f.d,_,[],(gt ah (gt al (gt ay (gt aJ aY)))),m,Z,Z⟩
     ·refine Ai f Z aZ ?_
      refine An ?_
      refine Ah ?_
      refine Ab f Z λa f=>Aj f Z Z Ay λa f=>Ac f Z λa f=>Aa ?_
      obtain rfl:=sj aw
      exact⟨_,Z,_,Z,_,(gt ay (gt aJ aY)),f.k Z,m⟩
   ·refine Ai f Z az ?_
    refine AG Z ?_
    obtain rfl:=sj aw
    obtain rfl:=ax _ rfl
    exact⟨_,Z,_,ay,f.k Z,m⟩
  ·rintro a w ⟨_,rfl,ap,a0,f,m⟩
   have ac:=rd2 a0 ac
   refine Ag (Ae ?_)
   refine Ac f Z λa f=>Aa ?_
   have⟨a1,a2,hd⟩:=bind_some hd
   refine AM (λa w=>∃q_545':Unit,a1= .inl q_545'∧∃(a3:GH),GLe ap a3∧Fr a 64 []∧Mem W a3 w (H)) ?_ ?_
   ·refine Ak ?_
    refine AI (λa4 a w=>∃a5:Int,a5=a4∧∃(a6:GH),GLe ap a6∧Fr a 64 [(1,(pb ad)),(3,(iv ae)),(5,(iv a5))]∧Mem W a6 w (ib ad 26 [aa]::H)) a2 ⟨_,Z,_,gr,f.k Z,m⟩ ?_
    clear a2 f m
    rintro a4 a7 a8 a9 a w ⟨a5,rfl,a6,ba,f,m⟩
    have ac:=rd2 ba ac
    refine Ag (Ae ?_)
    refine Ab f Z λa f=>Ab f Z λa f=>Aj f Z Z AP λa f=>Aa ?_
    rcases Af a8 with⟨bb,a8⟩|⟨bb,a8⟩
    ·refine Al f Z bb ?_
     refine An ?_
     refine Ag (Ak (Ae ?_))
     refine Ac f Z λa f=>Aa ?_
     have⟨bc,bd,a8⟩:=bind_some a8
     refine AM (λa w=>∃q_759':Unit,bc= .inl q_759'∧∃(be:GH),GLe a6 be∧Fr a 64 [(1,(pb ad)),(3,(iv ae)),(5,(iv a5))]∧Mem W be w (ib ad 26 [aa]::H)) ?_ ?_
     ·refine Ak ?_
      refine AI (λbf a w=>∃bg:Int,bg=bf∧∃(bh:GH),GLe a6 bh∧Fr a 64 [(1,(pb ad)),(3,(iv ae)),(5,(iv a5)),(6,(iv bg))]∧Mem W bh w (ib ad 26 [aa]::H)) bd ⟨_,Z,_,gr,f.k Z,m⟩ ?_
      clear bd f m
      rintro bf bi bj bk a w ⟨bg,rfl,bh,bl,f,m⟩
      have ac:=rd2 bl ac
      refine Ag (Ae ?_)
      refine Ab f Z λa f=>BQ underlying26 Z sizeOf24 f Z λa f=>AV 0 0 m BH f Z Z Z Z λa f=>Ab f Z λa f=> ?_
      have⟨bm,bn,bj⟩:=bind_some bj
      refine Be T24 f Z Z Z ac bn λbo bp a bq br f=>AK m Br f Z Z bq λa f=>AZ underlying33 f Z Z br λa f=>Aj f Z Z AP λa f=>Aa ?_
      rcases Af bj with⟨bs,bj⟩|⟨bs,bj⟩
      ·refine Al f Z bs ?_
       refine An ?_
       refine Ag (Ak (Ag ?_))
       refine Bp 15 A7 (by kernel_rfl) m ?_
       refine CC 0 15 underlying26 Z sizeOf24 Z f Z λa f=>Ce 1 15 0 BH Z Z Z f Z λa f=>CC 2 15 underlying26 Z sizeOf24 Z f Z λa f=>Ce 3 15 0 BH Z Z Z f Z λa f=>AJ 4 15 Z f Z λa f=> ?_
       have⟨bt,bu,bj⟩:=bind_some bj
       refine B8 5 15 T24 ac bu Z f Z Z λbv bw a bx bz f=>B6 6 15 Br bx Z f Z λa f=>AJ 7 15 Z f Z λa f=> ?_
       have⟨bA,bB,bj⟩:=bind_some bj
       refine B8 8 15 T33 bz bB Z f Z Z λbC bD a bE bF f=> ?_
       subst bF
       refine B6 9 15 Pl2 bE Z f Z λa f=> ?_
       have⟨bG,bH,bj⟩:=bind_some bj
       refine B8 10 15 T24 ac bH Z f Z Z λbI bJ a bK bL f=>B6 11 15 Br bK Z f Z λa f=>AJ 12 15 Z f Z λa f=> ?_
       have⟨bM,bN,bj⟩:=bind_some bj
       refine B7 (i:=13) 15 Z (by kernel_rfl) Z f Z Z Z call64 (λ_ _ w bO m=>Wk.e m (rd1 bO bL) bN) λa f=>q_p 14 15 Z f (λ_=>Bc (f.e Z)) λa f=>Bd λbP w bQ m=>Aa ?_
       rcases Af bj with⟨bR,bj⟩|⟨bR,bj⟩
       ·refine Al f Z bR ?_
        refine Ae ?_
        refine Ac f Z λa f=>Aa ?_
        refine Ao ?_
        have m:Mem W bP w H:=Mem.drop (H':=[ib ad 26 [aa]]) m
        obtain rfl:=sj bj
        obtain rfl:=bk _ rfl
        obtain rfl:=sj a8
        obtain rfl:=a9 _ rfl
        obtain rfl:=sj hd
        exact⟨[(.bool false)],f.g Z,f.d,_,[],(gt ah (gt al (gt a0 (gt ba (gt bl bQ))))),m,Z,Z⟩
       ·refine Ai f Z bR ?_
        refine An ?_
        refine Ah ?_
        refine Ab f Z λa f=>Aj f Z Z Ay λa f=>Ac f Z λa f=>Aa ?_
        obtain rfl:=sj bj
        exact⟨_,Z,_,Z,_,(gt bl bQ),f.k Z,m⟩
      ·refine Ai f Z bs ?_
       refine AG Z ?_
       obtain rfl:=sj bj
       obtain rfl:=bk _ rfl
       exact⟨_,Z,_,bl,f.k Z,m⟩
     ·rintro a w ⟨_,rfl,be,bS,f,m⟩
      refine Ah ?_
      refine Ab f Z λa f=>Aj f Z Z Ay λa f=>Ac f Z λa f=>Aa ?_
      obtain rfl:=sj a8
      exact⟨_,Z,_,Z,_,(gt ba bS),f.k Z,m⟩
    ·refine Ai f Z bb ?_
     refine AG Z ?_
     have m:Mem W a6 w H:=Mem.drop (H':=[ib ad 26 [aa]]) m
     obtain rfl:=sj a8
     obtain rfl:=a9 _ rfl
     exact⟨_,Z,_,ba,f.weak trivial,m⟩
   ·rintro a w ⟨_,rfl,a3,bT,f,m⟩
    refine Ae ?_
    refine Ac f Z λa f=>Aa ?_
    refine Ao ?_
    obtain rfl:=sj hd
    exact⟨[(.bool true)],f.g Z,f.d,_,[],(gt ah (gt al (gt a0 bT))),m,Z,Z⟩
theorem Wk.c1 {aa:Value}{ab:LL}(m:Mem W G w (H))(ac:R2 G aa ab){y:Bool}(hd:D.c1 ab=some y):
  Calls prog 247 #[(.agg #[aa])] w (Res W G H (λ_ Ho v=>Ho=[]∧v=(.bool y))):=by
 refine Ap (args:=[(.agg #[aa])]) (N:=10) [.tmp 2] func247 Z Z (lb Z) Z λa f=> ?_
 unfold D.c1 at hd
 refine Ae ?_
 refine A8 (cs:=[aa]) m f Z Z Z λad w a m f=>Ac f Z λa f=>Az ?_
 refine Aw 0 0 (ds:=[aa]) m AE f Z Z Z Z Z λa f=> ?_
 have⟨ae,af,hd⟩:=bind_some hd
 refine AR f Z call11 (Wk.u m ac af) λag w ah m a f=> ?_
 have ac:=rd2 ah ac
 refine Ab f Z λa f=> ?_
 have⟨ai,aj,hd⟩:=bind_some hd
 refine Bh 4 (λa w=>∃ak,GLe ag ak∧Mem W ak w (ib ad 26 [aa]::H)∧Fr a 10 [(0,(.agg #[aa])),(1,(pb ad)),(3,(.agg #[aa])),(4,(.bool ae)),(5,(.bool ae)),(9,(.bool ai))]) ?_ ?_
 ·rcases Af aj with⟨al,aj⟩|⟨al,aj⟩
  ·refine As f al ?_
   refine Aw 0 0 (ds:=[aa]) m AE f Z Z Z Z Z λa f=>As f al ?_
   have⟨am,an,aj⟩:=bind_some aj
   refine AR f Z call61 (Wk.b m ac an) λao w ap m a f=>As f al ?_
   refine Aj f Z Z CN λa f=>l_o f (AW (f.e Z) al (f.e Z)) λa f=> ?_
   obtain rfl:=sj aj
   exact⟨_,ap,m,f.k Z⟩
  ·refine Au f al λa f=> ?_
   refine Au f al λa f=>Au f al λa f=>l_o f (AX (f.e Z) al (f.e Z)) λa f=> ?_
   obtain rfl:=sj aj
   exact⟨_,gr,m,f.k Z⟩
 ·rintro a w ⟨ak,aq,m,f⟩
  refine Ac f Z λa f=>Aa ?_
  refine Ao ?_
  have m:Mem W ak w H:=Mem.drop (H':=[ib ad 26 [aa]]) m
  obtain rfl:=sj hd
  exact⟨[(.bool ai)],f.g Z,f.d,_,[],(gt ah aq),m,Z,Z⟩
theorem Wk.V0 {aa:Value}{ab:LL}(m:Mem W G w (H))(ac:R2 G aa ab){y:Bool}(hd:D.V0 ab=some y):
  Calls prog 180 #[(.agg #[aa])] w (Res W G H (λ_ Ho v=>Ho=[]∧v=(.bool y))):=by
 refine Ap (args:=[(.agg #[aa])]) (N:=10) [.tmp 2] func180 Z Z (lb Z) Z λa f=> ?_
 unfold D.V0 at hd
 refine Ae ?_
 refine A8 (cs:=[aa]) m f Z Z Z λad w a m f=>Ac f Z λa f=>Az ?_
 refine Aw 0 0 (ds:=[aa]) m AE f Z Z Z Z Z λa f=> ?_
 have⟨ae,af,hd⟩:=bind_some hd
 refine AR f Z call11 (Wk.u m ac af) λag w ah m a f=> ?_
 have ac:=rd2 ah ac
 refine Ab f Z λa f=> ?_
 have⟨ai,aj,hd⟩:=bind_some hd
 refine Bh 4 (λa w=>∃ak,GLe ag ak∧Mem W ak w (ib ad 26 [aa]::H)∧Fr a 10 [(0,(.agg #[aa])),(1,(pb ad)),(3,(.agg #[aa])),(4,(.bool ae)),(5,(.bool ae)),(9,(.bool ai))]) ?_ ?_
 ·rcases Af aj with⟨al,aj⟩|⟨al,aj⟩
  ·refine As f al ?_
   refine Aw 0 0 (ds:=[aa]) m AE f Z Z Z Z Z λa f=>As f al ?_
   have⟨am,an,aj⟩:=bind_some aj
   refine AR f Z call61 (Wk.b m ac an) λao w ap m a f=>As f al ?_
   refine Aj f Z Z CN λa f=>l_o f (AW (f.e Z) al (f.e Z)) λa f=> ?_
   obtain rfl:=sj aj
   exact⟨_,ap,m,f.k Z⟩
  ·refine Au f al λa f=> ?_
   refine Au f al λa f=>Au f al λa f=>l_o f (AX (f.e Z) al (f.e Z)) λa f=> ?_
   obtain rfl:=sj aj
   exact⟨_,gr,m,f.k Z⟩
 ·rintro a w ⟨ak,aq,m,f⟩
  refine Ac f Z λa f=>Aa ?_
  refine Ao ?_
  have m:Mem W ak w H:=Mem.drop (H':=[ib ad 26 [aa]]) m
  obtain rfl:=sj hd
  exact⟨[(.bool ai)],f.g Z,f.d,_,[],(gt ah aq),m,Z,Z⟩
theorem Wk.b1 {aa v1:Value}{ab:LL}{x1:LI}(m:Mem W G w (H))(ac:R2 G aa ab)(h1:R1 G v1 x1){y:((List Bool))}(hd:D.b1 ab x1=some y):
  Calls prog 182 #[(.agg #[aa]),v1] w (Res W G H (λG' Ho v=>∃r0:Value,∃i0:Itm,Ho=[i0]∧r0=v∧Ow RB 4 G' i0 r0 y)):=by
 refine Ap (args:=[(.agg #[aa]),v1]) (N:=23) [.tmp 4] func182 Z Z (lb Z) Z λa f=> ?_
 unfold D.b1 at hd
 refine Ae ?_
 refine A8 (cs:=[aa]) m f Z Z Z λad w a m f=>Ac f Z λa f=>Az ?_
 refine Aw 0 0 (ds:=[aa]) m AE f Z Z Z Z Z λa f=> ?_
 have⟨ae,af,hd⟩:=bind_some hd
 refine AR f Z call61 (Wk.b m ac af) λag w ah m a f=> ?_
 have h1:=rd1 ah h1
 have⟨ai,aj,hd⟩:=bind_some hd
 refine l_make (R:=RB) m T189 Z (by decide) Z f Z Z Z aj λak al w a m am f=>Ac f Z λa f=>Aa (Ag (Ae ?_))
 refine Ac f Z λa f=>Aa ?_
 have⟨an,ao,hd⟩:=bind_some hd
 refine AM (λa w=>∃ap:List Bool,ap=an∧∃(aq:GH) (ar:Itm),GLe ag aq∧Fr a 23 [(5,al)]∧Mem W aq w (ar::H)∧Ow RB 4 aq ar al ap) ?_ ?_
 ·refine Ak ?_
  have m:=m.eraseAt 1
  refine AI (λau a w=>∃av:List Bool,∃aw:Int,(av,aw)=au∧∃(ax:GH) (ay:Itm),GLe ag ax∧Fr a 23 [(1,v1),(5,al),(6,(iv aw))]∧Mem W ax w (ay::H)∧Ow RB 4 ax ay al av) ao ⟨_,_,Z,_,ak,gr,f.k Z,m,am⟩ ?_
  clear ao f m
  rintro au az aA aB a w ⟨av,aw,rfl,ax,ay,aC,f,m,aD⟩
  have h1:=rd1 aC h1
  refine Ag (Ae ?_)
  refine Ab f Z λa f=>Ab f Z λa f=>AZ underlying33 f Z Z h1 λa f=>Aj f Z Z AP λa f=>Aa ?_
  rcases Af aA with⟨aE,aA⟩|⟨aE,aA⟩
  ·refine Al f Z aE ?_
   refine An ?_
   refine Ag (Ak (Ah ?_))
   refine Ab f Z λa f=>Ab f Z λa f=>Ab f Z λa f=> ?_
   have⟨aF,aG,aA⟩:=bind_some aA
   refine Be T33 f Z Z Z h1 aG λaH aI a aJ aK f=> ?_
   subst aK
   refine AK m Pl2 f Z Z aJ λa f=> ?_
   have⟨aL,aM,aA⟩:=bind_some aA
   refine Bj 0 m aD Z T189 f Z Z Z aM λaN a aO f=>Cg 0 m aD Z sizeOf4 f Z Z aO aM Z Z Z λaP w m aQ=>Aa (Ah ?_)
   refine Ab f Z λa f=>Aj f Z Z Ay λa f=>Ac f Z λa f=>Aa ?_
   obtain rfl:=sj aA
   exact⟨_,Z,_,_,Z,_,aP,aC,f.k Z,m,aQ⟩
  ·refine Ai f Z aE ?_
   refine AG Z ?_
   obtain rfl:=sj aA
   obtain rfl:=aB _ rfl
   exact⟨_,Z,_,ay,aC,f.k Z,m,aD⟩
 ·rintro a w ⟨ap,rfl,aq,ar,aR,f,m,aS⟩
  refine Ae ?_
  refine Ab f Z λa f=>Ac f Z λa f=>Aa ?_
  refine Ao ?_
  obtain rfl:=sj hd
  exact⟨[al],f.g Z,f.d,_,[ar],(gt ah aR),m,_,_,Z,Z,aS⟩
theorem Wk.P0 {aa:Value}{ab:LL}(m:Mem W G w (H))(ac:R2 G aa ab){y:(LI)}(hd:D.P0 ab=some y):
  Calls prog 183 #[(.agg #[aa])] w (Res W G H (λG' Ho v=>∃r0:Value,∃i0:Itm,Ho=[i0]∧r0=v∧Ow R0 2 G' i0 r0 y)):=by
 refine Ap (args:=[(.agg #[aa])]) (N:=26) [.tmp 2] func183 Z Z (lb Z) Z λa f=> ?_
 unfold D.P0 at hd
 refine Ae ?_
 refine A8 (cs:=[aa]) m f Z Z Z λad w a m f=>Ac f Z λa f=>Az ?_
 refine Ac f Z λa f=>Aa (Ag (Ae ?_))
 refine Ac f Z λa f=>Aa ?_
 have⟨ae,af,hd⟩:=bind_some hd
 refine AM (λa w=>∃ag:Int,ag=ae∧∃(ah:GH),GLe G ah∧Fr a 26 [(3,(iv ag))]∧Mem W ah w (H)) ?_ ?_
 ·refine Ak ?_
  refine AI (λai a w=>∃aj:Int,∃ak:Int,(aj,ak)=ai∧∃(al:GH),GLe G al∧Fr a 26 [(1,(pb ad)),(3,(iv aj)),(4,(iv ak))]∧Mem W al w (ib ad 26 [aa]::H)) af ⟨_,_,Z,_,gr,f.k Z,m⟩ ?_
  clear af f m
  rintro ai am an ao a w ⟨aj,ak,rfl,al,ap,f,m⟩
  have ac:=rd2 ap ac
  refine Ag (Ae ?_)
  refine Ab f Z λa f=>Aw 0 0 (ds:=[aa]) m AE f Z Z Z Z Z λa f=> ?_
  have⟨aq,ar,an⟩:=bind_some an
  refine AR f Z call61 (Wk.b m ac ar) λau w av m a f=>Aj f Z Z AP λa f=>Aa ?_
  rcases Af an with⟨aw,an⟩|⟨aw,an⟩
  ·refine Al f Z aw ?_
   refine An ?_
   refine Ag (Ak (Ah ?_))
   refine Ab f Z λa f=>Aj f Z Z D9 λa f=>Ac f Z λa f=>Aa (Ah ?_)
   refine Ab f Z λa f=>Aj f Z Z Ay λa f=>Ac f Z λa f=>Aa ?_
   obtain rfl:=sj an
   exact⟨_,Z,_,_,Z,_,(gt ap av),f.k Z,m⟩
  ·refine Ai f Z aw ?_
   refine AG Z ?_
   have m:Mem W au w H:=Mem.drop (H':=[ib ad 26 [aa]]) m
   obtain rfl:=sj an
   obtain rfl:=ao _ rfl
   exact⟨_,Z,_,(gt ap av),f.k Z,m⟩
 ·rintro a w ⟨ag,rfl,ah,ax,f,m⟩
  refine Ae ?_
  refine Ab f Z λa f=> ?_
  have⟨ay,az,hd⟩:=bind_some hd
  refine l_make (R:=R0) m T33 Z (by decide) Z f Z Z Z az λaA aB w a m aC f=>Ac f Z λa f=>Aa (Ag (Ae ?_))
  refine Ac f Z λa f=>Aa ?_
  have⟨aD,aE,hd⟩:=bind_some hd
  refine AM (λa w=>∃aF:LI,aF=aD∧∃(aG:GH) (aH:Itm),GLe ah aG∧Fr a 26 [(5,aB)]∧Mem W aG w (aH::H)∧Ow R0 2 aG aH aB aF) ?_ ?_
  ·refine Ak ?_
   refine AI (λaI a w=>∃aJ:LI,∃aK:Int,(aJ,aK)=aI∧∃(aL:GH) (aM:Itm),GLe ah aL∧Fr a 26 [(3,(iv ag)),(5,aB),(6,(iv aK))]∧Mem W aL w (aM::H)∧Ow R0 2 aL aM aB aJ) aE ⟨_,_,Z,_,aA,gr,f.k Z,m,aC⟩ ?_
   clear aE f m
   rintro aI aN aO aP a w ⟨aJ,aK,rfl,aL,aM,aQ,f,m,aR⟩
   refine Ag (Ae ?_)
   refine Ab f Z λa f=>Ab f Z λa f=>Aj f Z Z AP λa f=>Aa ?_
   rcases Af aO with⟨aS,aO⟩|⟨aS,aO⟩
   ·refine Al f Z aS ?_
    refine An ?_
    refine Ag (Ak (Ah ?_))
    refine Ab f Z λa f=>Ab f Z λa f=> ?_
    have⟨aT,aU,aO⟩:=bind_some aO
    refine Bj 0 m aR Z T33 f Z Z Z aU λaV a aW f=>Cg 0 m aR Z sizeOf2 f Z Z aW aU Z Z Z λaX w m aY=>Aa (Ah ?_)
    refine Ab f Z λa f=>Aj f Z Z Ay λa f=>Ac f Z λa f=>Aa ?_
    obtain rfl:=sj aO
    exact⟨_,Z,_,_,Z,_,aX,aQ,f.k Z,m,aY⟩
   ·refine Ai f Z aS ?_
    refine AG Z ?_
    obtain rfl:=sj aO
    obtain rfl:=aP _ rfl
    exact⟨_,Z,_,aM,aQ,f.k Z,m,aR⟩
  ·rintro a w ⟨aF,rfl,aG,aH,aZ,f,m,a0⟩
   refine Ae ?_
   refine Ab f Z λa f=>Ac f Z λa f=>Aa ?_
   refine Ao ?_
   obtain rfl:=sj hd
   exact⟨[aB],f.g Z,f.d,_,[aH],(gt ax aZ),m,_,_,Z,Z,a0⟩
theorem Wk.A {x0:Bool}(m:Mem W G w (H)){y:Int}(hd:D.A x0=some y):
  Calls prog 254 #[(.bool x0)] w (Res W G H (λ_ Ho v=>Ho=[]∧v=(iv y))):=by
 refine Ap (args:=[(.bool x0)]) (N:=4) [.tmp 2] func254 Z Z (lb Z) Z λa f=> ?_
 unfold D.A at hd
 refine Ae ?_
 refine Ac f Z λa f=>Aa (Ag (Ae ?_))
 refine Ab f Z λa f=>Aa ?_
 rcases Af hd with⟨aa,hd⟩|⟨aa,hd⟩
 ·refine Al f Z aa ?_
  refine Ae ?_
  refine Ac f Z λa f=>Aa ?_
  refine Ao ?_
  obtain rfl:=sj hd
  exact⟨[(iv 1)],f.g Z,f.d,_,[],gr,m,Z,Z⟩
 ·refine Ai f Z aa ?_
  refine An ?_
  refine Ae ?_
  refine Ac f Z λa f=>Aa ?_
  refine Ao ?_
  obtain rfl:=sj hd
  exact⟨[(iv 0)],f.g Z,f.d,_,[],gr,m,Z,Z⟩
theorem Wk.C0 {v0:Value}{x0:(List Bool)}(m:Mem W G w (H))(h0:RSl RB G v0 x0){y:Int}(hd:D.C0 x0=some y):
  Calls prog 256 #[v0] w (Res W G H (λ_ Ho v=>Ho=[]∧v=(iv y))):=by
 refine Ap (args:=[v0]) (N:=21) [.tmp 2] func256 Z Z (lb Z) Z λa f=> ?_
 unfold D.C0 at hd
 refine Ae ?_
 refine Ac f Z λa f=>Az ?_
 refine Ac f Z λa f=>Aa (Ag (Ae ?_))
 refine Ab f Z λa f=>AZ underlying189 f Z Z h0 λa f=>Aj f Z Z Ct λa f=>Ac f Z λa f=>Aa ?_
 have⟨aa,ab,hd⟩:=bind_some hd
 refine AM (λa w=>∃ac:Int,ac=aa∧∃(ad:GH),GLe G ad∧Fr a 21 [(3,(iv ac))]∧Mem W ad w (H)) ?_ ?_
 ·refine Ak ?_
  refine AI (λae a w=>∃af:Int,∃ag:Int,(af,ag)=ae∧∃(ah:GH),GLe G ah∧Fr a 21 [(0,v0),(3,(iv af)),(4,(iv ag))]∧Mem W ah w (H)) ab ⟨_,_,Z,_,gr,f.k Z,m⟩ ?_
  clear ab f m
  rintro ae ai aj ak a w ⟨af,ag,rfl,ah,al,f,m⟩
  have h0:=RSl.mono RB.mono _ _ _ _ al h0
  refine Ag (Ae ?_)
  refine Ab f Z λa f=>Aj f Z Z Dv λa f=>Aa ?_
  rcases Af aj with⟨am,aj⟩|⟨am,aj⟩
  ·refine Al f Z am ?_
   refine An ?_
   refine Ag (Ak (Ah ?_))
   refine Ab f Z λa f=>Aj f Z Z D9 λa f=>Ab f Z λa f=>Ab f Z λa f=> ?_
   have⟨an,ao,aj⟩:=bind_some aj
   refine Be T189 f Z Z Z h0 ao λap aq a ar au f=> ?_
   subst au
   refine AK m Pl4 f Z Z ar λa f=> ?_
   have⟨av,aw,aj⟩:=bind_some aj
   refine AR f Z call254 (Wk.A m aw) λax w ay m a f=>Aj f Z Z Ay λa f=>Ac f Z λa f=>Aa (Ah ?_)
   refine Ab f Z λa f=>Aj f Z Z Ct λa f=>Ac f Z λa f=>Aa ?_
   obtain rfl:=sj aj
   exact⟨_,Z,_,_,Z,_,(gt al ay),f.k Z,m⟩
  ·refine Ai f Z am ?_
   refine AG Z ?_
   obtain rfl:=sj aj
   obtain rfl:=ak _ rfl
   exact⟨_,Z,_,al,f.k Z,m⟩
 ·rintro a w ⟨ac,rfl,ad,az,f,m⟩
  refine Ae ?_
  refine Ab f Z λa f=>Ac f Z λa f=>Aa ?_
  refine Ao ?_
  obtain rfl:=sj hd
  exact⟨[(iv ac)],f.g Z,f.d,_,[],az,m,Z,Z⟩
theorem Wk.L0 {aa v1:Value}{ab:LL}{x1:(List Bool)}{x2:Int}(m:Mem W G w (H))(ac:R2 G aa ab)(h1:RSl RB G v1 x1){y:(LI)}(hd:D.L0 ab x1 x2=some y):
  Calls prog 257 #[(.agg #[aa]),v1,(iv x2)] w (Res W G H (λG' Ho v=>∃r0:Value,∃i0:Itm,Ho=[i0]∧r0=v∧Ow R0 2 G' i0 r0 y)):=by
 refine Ap (args:=[(.agg #[aa]),v1,(iv x2)]) (N:=81) [.tmp 6] func257 Z Z (lb Z) Z λa f=> ?_
 unfold D.L0 at hd
 refine Ae ?_
 refine A8 (cs:=[aa]) m f Z Z Z λad w a m f=>Ac f Z λa f=>Az ?_
 refine Ab f Z λa f=>AF (R:=R0) (xs:=([x2]:LI)) (RI.one _) m T33 f Z Z Z (by decide) (All2.cons Z (All2.nil _)) λae af w a m ag f=>Ac f Z λa f=>Az ?_
 refine AF (R:=R0) (xs:=([]:LI)) (RI.one _) m T33 f Z Z Z (by decide) (All2.nil _) λah ai w a m aj f=>Ac f Z λa f=>Aa (Ag (Ae ?_))
 refine Ac f Z λa f=>Aa ?_
 have⟨ak,al,hd⟩:=bind_some hd
 refine AM (λa w=>∃am:LI,am=ak∧∃(an:GH) (ao:Value) (ap:Itm),GLe G an∧Fr a 81 [(8,ao)]∧Mem W an w (ap::H)∧Ow R0 2 an ap ao am) ?_ ?_
 ·refine Ak ?_
  have m:=m.fr 1
  have m:=m.fr 2
  refine AI (λaq a w=>∃ar:LI,∃au:LI,∃av:Int,(ar,au,av)=aq∧∃(aw:GH) (ax:Value) (ay:Itm) (az:Value) (aA:Itm),GLe G aw∧Fr a 81 [(1,v1),(2,(iv x2)),(3,(pb ad)),(7,ax),(8,az),(9,(iv av))]∧Mem W aw w (ib ad 26 [aa]::ay::aA::H)∧Ow R0 2 aw ay ax ar∧Ow R0 2 aw aA az au) al ⟨_,_,_,Z,_,af,ae,ai,ah,gr,f.k Z,m,ag,aj⟩ ?_
  clear al f m
  rintro aq aB aC aD a w ⟨ar,au,av,rfl,aw,ax,ay,az,aA,aE,f,m,aF,aG⟩
  have h1:=RSl.mono RB.mono _ _ _ _ aE h1
  have ac:=rd2 aE ac
  refine Ag (Ae ?_)
  refine Ab f Z λa f=>Ab f Z λa f=>Bz 1 m aF Z underlying33 f Z Z λa f=>Aj f Z Z AP λa f=>Aa ?_
  rcases Af aC with⟨aH,aC⟩|⟨aH,aC⟩
  ·refine Al f Z aH ?_
   refine An ?_
   refine Ag (Ak (Ag ?_))
   refine Bp 9 A7 (by kernel_rfl) m ?_
   refine CC 0 9 underlying26 Z sizeOf24 Z f Z λa f=>Ce 1 9 0 BH Z Z Z f Z λa f=>AJ 2 9 Z f Z λa f=>AJ 3 9 Z f Z λa f=> ?_
   have⟨aI,aJ,aC⟩:=bind_some aC
   refine q_oa 4 9 1 m aF T33 aJ Z f Z Z λaK a aL f=>q_ol 5 9 1 aF Pl2 aL aJ Z f Z λaM a aN f=> ?_
   subst aN
   have⟨aO,aP,aC⟩:=bind_some aC
   refine B8 6 9 T24 ac aP Z f Z Z λaQ aR a aS aT f=>B6 7 9 Br aS Z f Z λa f=>q_p 8 9 Z f (λ_=>A6 (f.e Z)) λa f=>Bd λaU w aV m=> ?_
   have h1:=RSl.mono RB.mono _ _ _ _ aV h1
   have aT:=rd1 aV aT
   have aF:=od1 aV aF
   have aG:=od1 aV aG
   refine Az ?_
   refine Ac f Z λa f=>Aa ?_
   have⟨aW,aX,aC⟩:=bind_some aC
   refine AM (λa w=>∃aY:LI,∃aZ:LI,(aY,aZ)=aW∧∃(a0:GH) (a1:Value) (a2:Itm) (a3:Value) (a4:Itm),GLe aU a0∧Fr a 81 [(1,v1),(2,(iv x2)),(3,(pb ad)),(7,a1),(8,a3),(9,(iv av))]∧Mem W a0 w (ib ad 26 [aa]::a2::a4::H)∧Ow R0 2 a0 a2 a1 aY∧Ow R0 2 a0 a4 a3 aZ) ?_ ?_
   ·refine Ak ?_
    refine AI (λa5 a w=>∃a6:LI,∃a7:LI,∃a8:Int,(a6,a7,a8)=a5∧∃(a9:GH) (ba:Value) (bb:Itm) (bc:Value) (bd:Itm),GLe aU a9∧Fr a 81 [(1,v1),(2,(iv x2)),(3,(pb ad)),(7,ba),(8,bc),(9,(iv av)),(10,aR),(11,(iv a8))]∧Mem W a9 w (ib ad 26 [aa]::bb::bd::H)∧Ow R0 2 a9 bb ba a6∧Ow R0 2 a9 bd bc a7) aX ⟨_,_,_,Z,_,ax,ay,az,aA,gr,f.k Z,m,aF,aG⟩ ?_
    clear aX f m
    rintro a5 be bf bg a w ⟨a6,a7,a8,rfl,a9,ba,bb,bc,bd,bh,f,m,bi,bj⟩
    have h1:=RSl.mono RB.mono _ _ _ _ bh h1
    have aT:=rd1 bh aT
    refine Ag (Ae ?_)
    refine Ab f Z λa f=>Ab f Z λa f=>AZ underlying33 f Z Z aT λa f=>Aj f Z Z AP λa f=>Aa ?_
    rcases Af bf with⟨bk,bf⟩|⟨bk,bf⟩
    ·refine Al f Z bk ?_
     refine An ?_
     refine Ag (Ak (Ag (Ae ?_)))
     refine Ab f Z λa f=>Ab f Z λa f=>Ab f Z λa f=> ?_
     have⟨bl,bm,bf⟩:=bind_some bf
     refine Be T33 f Z Z Z aT bm λbn bo a bp bq f=> ?_
     subst bq
     refine AK m Pl2 f Z Z bp λa f=> ?_
     have⟨br,bs,bf⟩:=bind_some bf
     refine Be T189 f Z Z Z h1 bs λbt bu a bv bw f=> ?_
     subst bw
     refine AK m Pl4 f Z Z bv λa f=>Ab f Z λa f=> ?_
     have⟨bx,bz,bf⟩:=bind_some bf
     refine Bh 8 (λa w=>∃bA,GLe a9 bA∧Mem W bA w (ib ad 26 [aa]::bb::bd::H)∧Fr a 81 [(1,v1),(2,(iv x2)),(3,(pb ad)),(7,ba),(8,bc),(9,(iv av)),(10,aR),(11,(iv a8)),(32,(.bool (decide (a8<(aO.length:Int))))),(35,v1),(36,aR),(37,(iv a8)),(38,bn),(39,(iv bl)),(40,bt),(41,(.bool br)),(42,(.bool br)),(50,(.bool bx))]) ?_ ?_
     ·rcases Af bz with⟨bB,bz⟩|⟨bB,bz⟩
      ·refine As f bB ?_
       refine Ab f Z λa f=>As f bB ?_
       refine Ab f Z λa f=>As f bB ?_
       refine Ab f Z λa f=>As f bB ?_
       have⟨bC,bD,bz⟩:=bind_some bz
       refine Be T33 f Z Z Z aT bD λbE bF a bG bH f=> ?_
       subst bH
       refine As f bB ?_
       refine AK m Pl2 f Z Z bG λa f=>As f bB ?_
       have⟨bI,bJ,bz⟩:=bind_some bz
       refine AA f Z call64 (Ow.lendCall (RI.mono _) 1 bi m Z (λbK bL m bM=>Wk.e m bM bJ) (λ_ _ _ _ h=>h)) λbN bO bP w bQ m bR a f=> ?_
       obtain⟨rfl,rfl⟩:=bR
       refine As f bB ?_
       refine l_o f (Bc (f.e Z)) λa f=>l_o f (AW (f.e Z) bB (f.e Z)) λa f=> ?_
       obtain rfl:=sj bz
       exact⟨_,bQ,m,f.k Z⟩
      ·refine Au f bB λa f=> ?_
       refine Au f bB λa f=>Au f bB λa f=>Au f bB λa f=>Au f bB λa f=>Au f bB λa f=>Au f bB λa f=>l_o f (AX (f.e Z) bB (f.e Z)) λa f=> ?_
       obtain rfl:=sj bz
       exact⟨_,gr,m,f.k Z⟩
     ·rintro a w ⟨bA,bS,m,f⟩
      have h1:=RSl.mono RB.mono _ _ _ _ bS h1
      have aT:=rd1 bS aT
      have bi:=od1 bS bi
      have bj:=od1 bS bj
      refine Aa ?_
      have⟨bT,bU,bf⟩:=bind_some bf
      refine AM (λa w=>∃bV:LI,bV=bT∧∃(bW:GH) (bX:Value) (bY:Itm),GLe bA bW∧Fr a 81 [(1,v1),(2,(iv x2)),(3,(pb ad)),(7,bX),(8,bc),(9,(iv av)),(10,aR),(11,(iv a8))]∧Mem W bW w (ib ad 26 [aa]::bY::bd::H)∧Ow R0 2 bW bY bX bV) ?_ ?_
      ·rcases Af bU with⟨bZ,bU⟩|⟨bZ,bU⟩
       ·refine Al f Z bZ ?_
        refine Ah ?_
        refine Ab f Z λa f=>Ab f Z λa f=>Ab f Z λa f=> ?_
        have⟨b0,b1,bU⟩:=bind_some bU
        refine Be T33 f Z Z Z aT b1 λb2 b3 a b4 b5 f=> ?_
        subst b5
        refine AK m Pl2 f Z Z b4 λa f=>AF (R:=R0) (xs:=([b0]:LI)) (RI.one _) m T33 f Z Z Z (by decide) (All2.cons Z (All2.nil _)) λb6 b7 w a m b8 f=> ?_
        have⟨b9,ca,bU⟩:=bind_some bU
        refine AT (RI.one _) 2 m bi Z T33 Z (by decide) f Z Z Z (Ow.src (j:=0) b8 m Z) ca λcb cc w a m cd f=>Ac f Z λa f=>Aa ?_
        have m:=m.fr 3
        have m:=m.fr 3
        have m:Mem W bA w (ib ad 26 [aa]::cb::bd::b6::H):=m.fr 3
        have m:=m.eraseAt 3
        obtain rfl:=sj bU
        exact⟨_,Z,_,cc,cb,gr,f.k Z,m,cd⟩
       ·refine Ai f Z bZ ?_
        refine An ?_
        obtain rfl:=sj bU
        exact⟨_,Z,_,ba,bb,gr,f.k Z,m,bi⟩
      ·rintro a w ⟨bV,rfl,bW,bX,bY,ce,f,m,cf⟩
       have h1:=RSl.mono RB.mono _ _ _ _ ce h1
       have aT:=rd1 ce aT
       have bj:=od1 ce bj
       refine Ae ?_
       refine Ab f Z λa f=>Ab f Z λa f=>Ab f Z λa f=> ?_
       have⟨cg,ch,bf⟩:=bind_some bf
       refine Be T33 f Z Z Z aT ch λci cj a ck cl f=> ?_
       subst cl
       refine AK m Pl2 f Z Z ck λa f=> ?_
       have⟨cm,cn,bf⟩:=bind_some bf
       refine Be T189 f Z Z Z h1 cn λco cp a cq cr f=> ?_
       subst cr
       refine AK m Pl4 f Z Z cq λa f=>l_o f (Bc (f.e Z)) λa f=>Ab f Z λa f=> ?_
       have⟨ct,cu,bf⟩:=bind_some bf
       refine Bh 7 (λa w=>∃cv,GLe bW cv∧Mem W cv w (ib ad 26 [aa]::bY::bd::H)∧Fr a 81 [(1,v1),(2,(iv x2)),(3,(pb ad)),(7,bX),(8,bc),(9,(iv av)),(10,aR),(11,(iv a8)),(58,v1),(59,aR),(60,(iv a8)),(61,ci),(62,(iv cg)),(63,co),(64,(.bool cm)),(65,(.bool (!cm))),(66,(.bool (!cm))),(73,(.bool ct))]) ?_ ?_
       ·rcases Af cu with⟨cw,cu⟩|⟨cw,cu⟩
        ·refine As f cw ?_
         refine Ab f Z λa f=>As f cw ?_
         refine Ab f Z λa f=>As f cw ?_
         have⟨cx,cy,cu⟩:=bind_some cu
         refine Be T33 f Z Z Z aT cy λcz cA a cB cC f=> ?_
         subst cC
         refine As f cw ?_
         refine AK m Pl2 f Z Z cB λa f=>As f cw ?_
         refine Ab f Z λa f=>As f cw ?_
         refine Aj f Z Z Dx λa f=>l_o f (AW (f.e Z) cw (f.e Z)) λa f=> ?_
         obtain rfl:=sj cu
         exact⟨_,gr,m,f.k Z⟩
        ·refine Au f cw λa f=> ?_
         refine Au f cw λa f=>Au f cw λa f=>Au f cw λa f=>Au f cw λa f=>Au f cw λa f=>l_o f (AX (f.e Z) cw (f.e Z)) λa f=> ?_
         obtain rfl:=sj cu
         exact⟨_,gr,m,f.k Z⟩
       ·rintro a w ⟨cv,cD,m,f⟩
        have aT:=rd1 cD aT
        have cf:=od1 cD cf
        have bj:=od1 cD bj
        refine Aa ?_
        rcases Af bf with⟨cE,bf⟩|⟨cE,bf⟩
        ·refine Al f Z cE ?_
         refine Ah ?_
         refine Ab f Z λa f=>Ab f Z λa f=>Ab f Z λa f=> ?_
         have⟨cF,cG,bf⟩:=bind_some bf
         refine Be T33 f Z Z Z aT cG λcH cI a cJ cK f=> ?_
         subst cK
         refine AK m Pl2 f Z Z cJ λa f=> ?_
         have m:=m.fr 2
         have⟨cL,cM,bf⟩:=bind_some bf
         refine AA f Z call86 (Wk.S m bj cM) λcN cO cP w cQ m cR a f=> ?_
         obtain⟨cS,cT,rfl,rfl,cU⟩:=cR
         have cf:=od1 cQ cf
         refine Ac f Z λa f=>Aa (Ah ?_)
         refine Ab f Z λa f=>Aj f Z Z Ay λa f=>Ac f Z λa f=>Aa ?_
         have m:=m.fr 2
         have m:=m.fr 2
         obtain rfl:=sj bf
         exact⟨_,Z,_,_,_,Z,_,bX,bY,cS,cT,(gt bh (gt bS (gt ce (gt cD cQ)))),f.k Z,m,cf,cU⟩
        ·refine Ai f Z cE ?_
         refine An ?_
         refine Ah ?_
         refine Ab f Z λa f=>Aj f Z Z Ay λa f=>Ac f Z λa f=>Aa ?_
         obtain rfl:=sj bf
         exact⟨_,Z,_,_,_,Z,_,bX,bY,bc,bd,(gt bh (gt bS (gt ce cD))),f.k Z,m,cf,bj⟩
    ·refine Ai f Z bk ?_
     refine AG Z ?_
     obtain rfl:=sj bf
     obtain rfl:=bg _ rfl
     exact⟨_,_,Z,_,ba,bb,bc,bd,bh,f.k Z,m,bi,bj⟩
   ·rintro a w ⟨aY,aZ,rfl,a0,a1,a2,a3,a4,cV,f,m,cW,cX⟩
    refine Ah ?_
    refine Ab f Z λa f=>Aj f Z Z Ay λa f=>Ac f Z λa f=>Aa ?_
    obtain rfl:=sj aC
    exact⟨_,Z,_,_,_,Z,_,a1,a2,a3,a4,(gt aE (gt aV cV)),f.k Z,m,cW,cX⟩
  ·refine Ai f Z aH ?_
   refine AG Z ?_
   have m:=m.fr 2
   have m:=m.eraseAt 2
   have m:=m.eraseAt 1
   obtain rfl:=sj aC
   obtain rfl:=aD _ rfl
   exact⟨_,Z,_,az,aA,aE,f.k Z,m,aG⟩
 ·rintro a w ⟨am,rfl,an,ao,ap,cY,f,m,cZ⟩
  refine Ae ?_
  refine Ab f Z λa f=>Ac f Z λa f=>Aa ?_
  refine Ao ?_
  obtain rfl:=sj hd
  exact⟨[ao],f.g Z,f.d,_,[ap],cY,m,_,_,Z,Z,cZ⟩
theorem Wk.e0 {x0 x1:Int}(m:Mem W G w (H)){y:Int}(hd:D.e0 x0 x1=some y):
  Calls prog 144 #[(iv x0),(iv x1)] w (Res W G H (λ_ Ho v=>Ho=[]∧v=(iv y))):=by
 refine Ap (args:=[(iv x0),(iv x1)]) (N:=10) [.tmp 4] func144 Z Z (lb Z) Z λa f=> ?_
 unfold D.e0 at hd
 refine Ae ?_
 refine Ac f Z λa f=>Aa (Ag (Ae ?_))
 refine Ab f Z λa f=>Ab f Z λa f=>Aj f Z Z Cu λa f=>Aa ?_
 rcases Af hd with⟨aa,hd⟩|⟨aa,hd⟩
 ·refine Al f Z aa ?_
  refine Ae ?_
  refine Ab f Z λa f=>Ac f Z λa f=>Aa ?_
  refine Ao ?_
  obtain rfl:=sj hd
  exact⟨[(iv x0)],f.g Z,f.d,_,[],gr,m,Z,Z⟩
 ·refine Ai f Z aa ?_
  refine An ?_
  refine Ae ?_
  refine Ab f Z λa f=>Ac f Z λa f=>Aa ?_
  refine Ao ?_
  obtain rfl:=sj hd
  exact⟨[(iv x1)],f.g Z,f.d,_,[],gr,m,Z,Z⟩
theorem Wk.m0 {W:World}(n:Nat):∀{w:World} {G:GH} {H:List Itm} {aa v1:Value} {it1:Itm} {v2:Value} {it2:Itm} {ab:LL} {x1:(List Bool)} {x2:LI} (m:Mem W G w (it1::it2::H)) (ac:R2 G aa ab) (o1:Ow RB 4 G it1 v1 x1) (o2:Ow R0 2 G it2 v2 x2) {y:Int×((List Bool))×(LI)} (hd:D.m0 n ab x1 x2=some y),
  Calls prog 181 #[(.agg #[aa]),v1,v2] w (Res W G H (λG' Ho v=>∃i0:Itm,∃i1:Itm,Ho=[i0,i1]∧v=(iv y.1)∧Ow RB 4 G' i0 v1 y.2.1∧Ow R0 2 G' i1 v2 y.2.2)):=by
 induction n with
 |zero=>intros;rename_i hd;simp[D.m0] at hd
 |succ fuel ih=>
  intro w G H aa v1 it1 v2 it2 ab x1 x2 m ac o1 o2 y hd
  refine Ap (args:=[(.agg #[aa]),v1,v2]) (N:=66) [.tmp 6] func181 Z Z (lb Z) Z λa f=> ?_
  unfold D.m0 at hd
  refine Ae ?_
  refine A8 (cs:=[aa]) m f Z Z Z λad w a m f=>Ac f Z λa f=>Az ?_
  refine Ab f Z λa f=> ?_
  have⟨ae,af,hd⟩:=bind_some hd
  refine AA f Z call256 (Ow.lendCall RB.mono 1 o1 m Z (λag ah m ai=>Wk.C0 m ai af) (λ_ _ _ _ h=>h)) λaj ak al w am m an a f=> ?_
  obtain⟨rfl,rfl⟩:=an
  have ac:=rd2 am ac
  have o1:=Ow.mono RB.mono am o1
  have o2:=od1 am o2
  refine Ac f Z λa f=>Aa (Ag (Ae ?_))
  refine Ab f Z λa f=>Ab f Z λa f=> ?_
  have⟨ao,ap,hd⟩:=bind_some hd
  refine Bj 2 m o2 Z T33 f Z Z Z ap λaq a ar f=>Bl 2 m o2 Z Pl2 f Z Z ar ap λau a av f=> ?_
  subst av
  refine Aj f Z Z Dv λa f=>Aa ?_
  rcases Af hd with⟨aw,hd⟩|⟨aw,hd⟩
  ·refine Al f Z aw ?_
   refine Ae ?_
   refine Ab f Z λa f=>Ab f Z λa f=> ?_
   have⟨ax,ay,hd⟩:=bind_some hd
   refine Bj 2 m o2 Z T33 f Z Z Z ay λaz a aA f=>Bl 2 m o2 Z Pl2 f Z Z aA ay λaB a aC f=> ?_
   subst aC
   refine Ac f Z λa f=>Aa ?_
   refine Ao ?_
   have m:=m.fr 2
   have m:=m.fr 2
   have m:=m.eraseAt 2
   obtain rfl:=sj hd
   exact⟨[(iv ax)],f.g Z,f.d,_,[it1,it2],am,m,_,_,Z,Z,o1,o2⟩
  ·refine Ai f Z aw ?_
   refine An ?_
   refine Ae ?_
   refine Ac f Z λa f=>Aa (Ag (Ae ?_))
   refine Ac f Z λa f=>Aa ?_
   have⟨aD,aE,hd⟩:=bind_some hd
   refine AM (λa w=>∃aF:LI,∃aG:List Bool,∃aH:Int,(aF,aG,aH)=aD∧∃(aI:GH) (aJ:Itm) (aK:Itm),GLe ak aI∧Fr a 66 [(2,v2),(7,(iv ae)),(8,(iv aH))]∧Mem W aI w (aJ::aK::H)∧Ow R0 2 aI aJ v2 aF∧Ow RB 4 aI aK v1 aG) ?_ ?_
   ·refine Ak ?_
    have m:=m.fr 2
    have m:=m.fr 1
    refine AI (λaL a w=>∃aM:LI,∃aN:List Bool,∃aO:Int,∃aP:Int,(aM,aN,aO,aP)=aL∧∃(aQ:GH) (aR:Itm) (aS:Itm),GLe ak aQ∧Fr a 66 [(1,v1),(2,v2),(3,(pb ad)),(7,(iv ae)),(8,(iv aO)),(9,(iv aP))]∧Mem W aQ w (ib ad 26 [aa]::aR::aS::H)∧Ow R0 2 aQ aR v2 aM∧Ow RB 4 aQ aS v1 aN) aE ⟨_,_,_,_,Z,_,it2,it1,gr,f.k Z,m,o2,o1⟩ ?_
    clear aE f m
    rintro aL aT aU aV a w ⟨aM,aN,aO,aP,rfl,aQ,aR,aS,aW,f,m,aX,aY⟩
    have ac:=rd2 aW ac
    refine Ag (Ae ?_)
    refine Ab f Z λa f=>Aw 0 0 (ds:=[aa]) m AE f Z Z Z Z Z λa f=> ?_
    have⟨aZ,a2,aU⟩:=bind_some aU
    refine AR f Z call61 (Wk.b m ac a2) λa3 w a4 m a f=> ?_
    have ac:=rd2 a4 ac
    have aX:=od1 a4 aX
    have aY:=Ow.mono RB.mono a4 aY
    refine Aj f Z Z AP λa f=>Aa ?_
    rcases Af aU with⟨a5,aU⟩|⟨a5,aU⟩
    ·refine Al f Z a5 ?_
     refine An ?_
     refine Ag (Ak (Ag (Ae ?_)))
     refine Ab f Z λa f=>Ab f Z λa f=> ?_
     have⟨a6,a7,aU⟩:=bind_some aU
     refine Bj 2 m aY Z T189 f Z Z Z a7 λa8 a a9 f=>Bl 2 m aY Z Pl4 f Z Z a9 a7 λba a bb f=> ?_
     subst bb
     refine Aa ?_
     rcases Af aU with⟨bc,aU⟩|⟨bc,aU⟩
     ·refine Al f Z bc ?_
      refine AG Z ?_
      refine Ah ?_
      refine Ab f Z λa f=>Aj f Z Z Ay λa f=>Ac f Z λa f=>Aa ?_
      obtain rfl:=sj aU
      exact⟨_,Z,_,_,_,_,Z,_,aR,aS,(gt aW a4),f.k Z,m,aX,aY⟩
     ·refine Ai f Z bc ?_
      refine An ?_
      refine Ae ?_
      refine Aw 0 0 (ds:=[aa]) m AE f Z Z Z Z Z λa f=>Ab f Z λa f=>Ab f Z λa f=> ?_
      have⟨bd,be,aU⟩:=bind_some aU
      refine AA f Z call257 (Ow.lendCall RB.mono 2 aY m Z (λbf bg m bh=>Wk.L0 m (rd2 bg ac) bh be) (λ_ G' _ _ ⟨a0,a1,e1,e2,o0⟩=>⟨a0,a1,e1,e2,Ow.free (RI.free _) G' o0⟩)) λbi bj bk w bl m bm a f=> ?_
      obtain⟨bn,bo,rfl,rfl,bp⟩:=bm
      have ac:=rd2 bl ac
      have aX:=od1 bl aX
      have aY:=Ow.mono RB.mono bl aY
      refine Bz 0 m bp Z underlying33 f Z Z λa f=>Ac f Z λa f=>Az ?_
      refine Ab f Z λa f=>Ab f Z λa f=> ?_
      have⟨bq,br,aU⟩:=bind_some aU
      refine Bj 3 m aY Z T189 f Z Z Z br λbs a bt f=>Cg 3 m aY Z sizeOf4 f Z Z bt br Z Z Z λbu w m bv=>Az ?_
      refine Ab f Z λa f=>Aw 1 0 (ds:=[aa]) m AE f Z Z Z Z Z λa f=>Ab f Z λa f=>Ab f Z λa f=> ?_
      have m:=m.fr 2
      have m:=m.fr 3
      have⟨bw,bx,aU⟩:=bind_some aU
      refine AA f Z call181 (ih m ac bv aX bx) λbz bA bB w bC m bD a f=> ?_
      obtain⟨bE,bF,rfl,rfl,bG,bH⟩:=bD
      have⟨bI,bJ,aU⟩:=bind_some aU
      refine AR f Z call144 (Wk.e0 m bJ) λbK w bL m a f=> ?_
      have bG:=Ow.mono RB.mono bL bG
      have bH:=od1 bL bH
      refine Ac f Z λa f=>Az ?_
      refine Ab f Z λa f=>Ab f Z λa f=> ?_
      have⟨bM,bN,aU⟩:=bind_some aU
      refine Bj 0 m bG Z T189 f Z Z Z bN λbO a bP f=>Cg 0 m bG Z sizeOf4 f Z Z bP bN Z Z Z λbQ w m bR=>Az ?_
      refine Ab f Z λa f=>Aj f Z Z AP λa f=>Ab f Z λa f=> ?_
      refine Bh 4 (λa w=>∃bS,GLe bK bS∧Mem W bS w (bQ::bF::bo::ib ad 26 [aa]::H)∧Fr a 66 [(1,v1),(2,v2),(3,(pb ad)),(7,(iv ae)),(8,(iv aO)),(9,(iv aP)),(10,(iv bI)),(49,(iv aO)),(50,(.bool (decide (aO<0)))),(51,(.bool (decide (aO<0)))),(55,(.bool ((decide (aO<0))||(decide (bI<aO)))))]) ?_ ?_
      ·rcases Bool.eq_false_or_eq_true (decide (aO<0)) with bT|bT
       ·refine Au f bT λa f=> ?_
        refine Au f bT λa f=>Au f bT λa f=>l_o f (AW (f.e Z) bT (f.e Z)) λa f=> ?_
        exact⟨_,gr,m,f.weak ⟨Z,Z,Z,Z,Z,Z,Z,Z,Z,Z,by rw[bT];rfl,trivial⟩⟩
       ·refine As f bT ?_
        refine Ab f Z λa f=>As f bT ?_
        refine Ab f Z λa f=>As f bT ?_
        refine Aj f Z Z AP λa f=>l_o f (AX (f.e Z) bT (f.e Z)) λa f=> ?_
        exact⟨_,gr,m,f.weak ⟨Z,Z,Z,Z,Z,Z,Z,Z,Z,Z,by rw[bT];rfl,trivial⟩⟩
      ·rintro a w ⟨bS,bU,m,f⟩
       have bR:=Ow.mono RB.mono bU bR
       have bH:=od1 bU bH
       refine Aa ?_
       rcases Af aU with⟨bV,aU⟩|⟨bV,aU⟩
       ·refine Al f Z bV ?_
        refine Ah ?_
        refine Ab f Z λa f=>Ac f Z λa f=>Aa (Ah ?_)
        refine Ab f Z λa f=>Aj f Z Z Ay λa f=>Ac f Z λa f=>Aa ?_
        have m:=m.fr 1
        have m:=m.fr 3
        have m:=m.eraseAt 3
        obtain rfl:=sj aU
        exact⟨_,Z,_,_,_,_,Z,_,bF,bQ,(gt aW (gt a4 (gt bl (gt bC (gt bL bU))))),f.k Z,m,bH,bR⟩
       ·refine Ai f Z bV ?_
        refine An ?_
        refine Ah ?_
        refine Ab f Z λa f=>Aj f Z Z Ay λa f=>Ac f Z λa f=>Aa ?_
        have m:=m.fr 1
        have m:=m.fr 3
        have m:=m.eraseAt 3
        obtain rfl:=sj aU
        exact⟨_,Z,_,_,_,_,Z,_,bF,bQ,(gt aW (gt a4 (gt bl (gt bC (gt bL bU))))),f.k Z,m,bH,bR⟩
    ·refine Ai f Z a5 ?_
     refine AG Z ?_
     have m:=m.fr 2
     have m:=m.fr 2
     have m:=m.eraseAt 2
     obtain rfl:=sj aU
     obtain rfl:=aV _ rfl
     exact⟨_,_,_,Z,_,aR,aS,(gt aW a4),f.k Z,m,aX,aY⟩
   ·rintro a w ⟨aF,aG,aH,rfl,aI,aJ,aK,bW,f,m,bX,bY⟩
    refine Ae ?_
    refine Ab f Z λa f=>Ab f Z λa f=>Ab f Z λa f=> ?_
    have⟨bZ,b0,hd⟩:=bind_some hd
    refine AR f Z call144 (Wk.e0 m b0) λb1 w b2 m a f=> ?_
    have bX:=od1 b2 bX
    have bY:=Ow.mono RB.mono b2 bY
    have⟨b3,b4,hd⟩:=bind_some hd
    refine Bj 0 m bX Z T33 f Z Z Z b4 λb5 a b6 f=>Cg 0 m bX Z sizeOf2 f Z Z b6 b4 Z Z Z λb7 w m b8=>Az ?_
    refine Ab f Z λa f=>Ab f Z λa f=> ?_
    have⟨b9,ca,hd⟩:=bind_some hd
    refine Bj 0 m b8 Z T33 f Z Z Z ca λcb a cc f=>Bl 0 m b8 Z Pl2 f Z Z cc ca λcd a ce f=> ?_
    subst ce
    refine Ac f Z λa f=>Aa ?_
    refine Ao ?_
    have m:=m.fr 1
    obtain rfl:=sj hd
    exact⟨[(iv b9)],f.g Z,f.d,_,[aK,b7],(gt am (gt bW b2)),m,_,_,Z,Z,bY,b8⟩
theorem Wk.x {aa v1:Value}{it1:Itm}{v2:Value}{it2:Itm}{ab:LL}{x1:(List Bool)}{x2:LI}(m:Mem W G w (it1::it2::H))(ac:R2 G aa ab)(o1:Ow RB 4 G it1 v1 x1)(o2:Ow R0 2 G it2 v2 x2){y:Int×((List Bool))×(LI)}(hd:D.x ab x1 x2=some y):
  Calls prog 181 #[(.agg #[aa]),v1,v2] w (Res W G H (λG' Ho v=>∃i0:Itm,∃i1:Itm,Ho=[i0,i1]∧v=(iv y.1)∧Ow RB 4 G' i0 v1 y.2.1∧Ow R0 2 G' i1 v2 y.2.2)):=by
 exact Wk.m0 Bo m ac o1 o2 hd
theorem Wk.k1 {aa v1:Value}{ab:LL}{x1:LI}(m:Mem W G w (H))(ac:R2 G aa ab)(h1:R1 G v1 x1){y:Int}(hd:D.k1 ab x1=some y):
  Calls prog 65 #[(.agg #[aa]),v1] w (Res W G H (λ_ Ho v=>Ho=[]∧v=(iv y))):=by
 refine Ap (args:=[(.agg #[aa]),v1]) (N:=22) [.tmp 4] func65 Z Z (lb Z) Z λa f=> ?_
 unfold D.k1 at hd
 refine Ae ?_
 refine A8 (cs:=[aa]) m f Z Z Z λad w a m f=>Ac f Z λa f=>Aa (Ag (Ae ?_))
 refine Aw 0 0 (ds:=[aa]) m AE f Z Z Z Z Z λa f=> ?_
 have⟨ae,af,hd⟩:=bind_some hd
 refine AR f Z call180 (Wk.V0 m ac af) λag w ah m a f=> ?_
 have ac:=rd2 ah ac
 have h1:=rd1 ah h1
 refine l_o f (Bc (f.e Z)) λa f=>Ab f Z λa f=> ?_
 have⟨ai,aj,hd⟩:=bind_some hd
 refine Bh 6 (λa w=>∃ak,GLe ag ak∧Mem W ak w (ib ad 26 [aa]::H)∧Fr a 22 [(0,(.agg #[aa])),(1,v1),(2,(pb ad)),(5,(.agg #[aa])),(6,(.bool ae)),(7,(.bool (!ae))),(8,(.bool (!ae))),(14,(.bool ai))]) ?_ ?_
 ·rcases Af aj with⟨al,aj⟩|⟨al,aj⟩
  ·refine Au f al λa f=> ?_
   refine Au f al λa f=>Au f al λa f=>Au f al λa f=>Au f al λa f=>l_o f (AW (f.e Z) al (f.e Z)) λa f=> ?_
   obtain rfl:=sj aj
   exact⟨_,gr,m,f.k Z⟩
  ·refine As f al ?_
   refine Ab f Z λa f=>As f al ?_
   refine Aw 0 0 (ds:=[aa]) m AE f Z Z Z Z Z λa f=>As f al ?_
   have⟨am,an,aj⟩:=bind_some aj
   refine AR f Z call61 (Wk.b m ac an) λao w ap m a f=> ?_
   have h1:=rd1 ap h1
   refine As f al ?_
   have⟨aq,ar,aj⟩:=bind_some aj
   refine AR f Z call63 (Wk.P m h1 ar) λau w av m a f=>As f al ?_
   refine l_o f (Bc (f.e Z)) λa f=>l_o f (AX (f.e Z) al (f.e Z)) λa f=> ?_
   obtain rfl:=sj aj
   exact⟨_,(gt ap av),m,f.k Z⟩
 ·rintro a w ⟨ak,aw,m,f⟩
  have ac:=rd2 aw ac
  have h1:=rd1 aw h1
  refine Aa ?_
  rcases Af hd with⟨ax,hd⟩|⟨ax,hd⟩
  ·refine Al f Z ax ?_
   refine Ae ?_
   refine Ac f Z λa f=>Aa ?_
   refine Ao ?_
   have m:Mem W ak w H:=Mem.drop (H':=[ib ad 26 [aa]]) m
   obtain rfl:=sj hd
   exact⟨[(iv (-1))],f.g Z,f.d,_,[],(gt ah aw),m,Z,Z⟩
  ·refine Ai f Z ax ?_
   refine An ?_
   refine Ag ?_
   refine Bp 6 A7 (by kernel_rfl) m ?_
   refine BX (i:=0) (ds:=[aa]) 6 0 AE Z Z Z Z (by kernel_rfl) Z f Z Z Z λa f=>BX (i:=1) (ds:=[aa]) 6 0 AE Z Z Z Z (by kernel_rfl) Z f Z Z Z λa f=>AJ 2 6 Z f Z λa f=>BX (i:=4) (ds:=[aa]) 6 0 AE Z Z Z Z (by kernel_rfl) Z f Z Z Z λa f=>Bs 3 Z λay w az m aA aA=> ?_
   have ac:=rd2 az ac
   have h1:=rd1 az h1
   have⟨aB,aC,hd⟩:=bind_some hd
   refine AA f Z call182 (Wk.b1 m ac h1 aC) λaD aE aF w aG m aH a f=> ?_
   obtain⟨aI,aJ,rfl,rfl,aK⟩:=aH
   have ac:=rd2 aG ac
   refine Aa ?_
   refine aA aE [aJ] _ _ aG m ?_
   refine Bs 5 Z λaL w aM m aN aN=> ?_
   have ac:=rd2 aM ac
   have aK:=Ow.mono RB.mono aM aK
   have⟨aO,aP,hd⟩:=bind_some hd
   refine AA f Z call183 (Wk.P0 m ac aP) λaQ aR aS w aT m aU a f=> ?_
   obtain⟨aV,aW,rfl,rfl,aX⟩:=aU
   have ac:=rd2 aT ac
   have aK:=Ow.mono RB.mono aT aK
   refine Aa ?_
   refine aN aR [aW,aJ] _ _ aT m ?_
   refine Bd λaY w aZ m=> ?_
   have ac:=rd2 aZ ac
   have aX:=od1 aZ aX
   have aK:=Ow.mono RB.mono aZ aK
   have m:=m.fr 1
   have⟨a0,a1,hd⟩:=bind_some hd
   refine AA f Z call181 (Wk.x m ac aK aX a1) λa2 a3 a4 w a5 m a6 a f=> ?_
   obtain⟨a7,a8,rfl,rfl,a9,ba⟩:=a6
   refine Ac f Z λa f=>Aa ?_
   refine Ao ?_
   have m:Mem W a3 w H:=Mem.drop (H':=[a7,a8,ib ad 26 [aa]]) m
   obtain rfl:=sj hd
   exact⟨[(iv a0.1)],f.g Z,f.d,_,[],(gt ah (gt aw (gt az (gt aG (gt aM (gt aT (gt aZ a5))))))),m,Z,Z⟩
theorem Wk.o0 {aa:Value}{ab:LL}(m:Mem W G w (H))(ac:R2 G aa ab){y:Int}(hd:D.o0 ab=some y):
  Calls prog 12 #[(.agg #[aa])] w (Res W G H (λ_ Ho v=>Ho=[]∧v=(iv y))):=by
 refine Ap (args:=[(.agg #[aa])]) (N:=6) [.tmp 2] func12 Z Z (lb Z) Z λa f=> ?_
 unfold D.o0 at hd
 refine Ae ?_
 refine A8 (cs:=[aa]) m f Z Z Z λad w a m f=>Ac f Z λa f=>Az ?_
 refine Aw 0 0 (ds:=[aa]) m AE f Z Z Z Z Z λa f=>AF (R:=R0) (xs:=([]:LI)) (RI.one _) m T33 f Z Z Z (by decide) (All2.nil _) λae af w a m ag f=> ?_
 have⟨ah,ai,hd⟩:=bind_some hd
 refine AA f Z call65 (Ow.lendCall (RI.mono _) 0 ag m Z (λaj ak m al=>Wk.k1 m (rd2 ak ac) al ai) (λ_ _ _ _ h=>h)) λam an ao w ap m aq a f=> ?_
 obtain⟨rfl,rfl⟩:=aq
 refine Ac f Z λa f=>Aa ?_
 refine Ao ?_
 have m:Mem W an w H:=Mem.drop (H':=[ae,ib ad 26 [aa]]) m
 obtain rfl:=sj hd
 exact⟨[(iv ah)],f.g Z,f.d,_,[],ap,m,Z,Z⟩
theorem Wk.a1 {x0 x1:Int}(m:Mem W G w (H)){y:(LL)}(hd:D.a1 x0 x1=some y):
  Calls prog 248 #[(iv x0),(iv x1)] w (Res W G H (λG' Ho v=>∃r0:Value,∃i0:Itm,Ho=[i0]∧r0=v∧Ow R1 33 G' i0 r0 y)):=by
 refine Ap (args:=[(iv x0),(iv x1)]) (N:=63) [.tmp 4] func248 Z Z (lb Z) Z λa f=> ?_
 unfold D.a1 at hd
 refine Ae ?_
 refine Ac f Z λa f=>Az ?_
 refine AF (R:=R0) (xs:=([]:LI)) (RI.one _) m T33 f Z Z Z (by decide) (All2.nil _) λaa ab w a m ac f=> ?_
 obtain⟨ad,ae,m,af⟩:=Ow.stamp (RI.mono _) ac m
 refine AF (R:=R1) (xs:=([([]:LI)]:LL)) (RSl.one _) m T24 f Z Z Z (by decide) (All2.cons af (All2.nil _)) λag ah w a m ai f=>Ac f Z λa f=>Aa (Ag (Ae ?_))
 refine Ac f Z λa f=>Aa ?_
 have⟨aj,ak,hd⟩:=bind_some hd
 refine AM (λa w=>∃al:LL,al=aj∧∃(am:GH) (an:Value) (ao:Itm),GLe ad am∧Fr a 63 [(5,an)]∧Mem W am w (ao::H)∧Ow R1 33 am ao an al) ?_ ?_
 ·refine Ak ?_
  refine AI (λap a w=>∃aq:LL,∃ar:Int,(aq,ar)=ap∧∃(au:GH) (av:Value) (aw:Itm),GLe ad au∧Fr a 63 [(0,(iv x0)),(1,(iv x1)),(5,av),(6,(iv ar))]∧Mem W au w (aw::H)∧Ow R1 33 au aw av aq) ak ⟨_,_,Z,_,ah,ag,gr,f.k Z,m,ai⟩ ?_
  clear ak f m
  rintro ap ax ay az a w ⟨aq,ar,rfl,au,av,aw,aA,f,m,aB⟩
  refine Ag (Ae ?_)
  refine Ab f Z λa f=>Ab f Z λa f=>Aj f Z Z AP λa f=>Aa ?_
  rcases Af ay with⟨aC,ay⟩|⟨aC,ay⟩
  ·refine Al f Z aC ?_
   refine An ?_
   refine Ag (Ak (Ae ?_))
   refine AF (R:=R1) (xs:=([]:LL)) (RSl.one _) m T24 f Z Z Z (by decide) (All2.nil _) λaD aE w a m aF f=>Ac f Z λa f=>Aa (Ag (Ae ?_))
   refine Ac f Z λa f=>Aa ?_
   have⟨aG,aH,ay⟩:=bind_some ay
   refine AM (λa w=>∃aI:LL,aI=aG∧∃(aJ:GH) (aK:Value) (aL:Itm),GLe au aJ∧Fr a 63 [(0,(iv x0)),(1,(iv x1)),(6,(iv ar)),(7,aK)]∧Mem W aJ w (aL::H)∧Ow R1 33 aJ aL aK aI) ?_ ?_
   ·refine Ak ?_
    have m:=m.fr 1
    refine AI (λaM a w=>∃aN:LL,∃aO:Int,(aN,aO)=aM∧∃(aP:GH) (aQ:Value) (aR:Itm),GLe au aP∧Fr a 63 [(0,(iv x0)),(1,(iv x1)),(5,av),(6,(iv ar)),(7,aQ),(8,(iv aO))]∧Mem W aP w (aw::aR::H)∧Ow R1 33 aP aR aQ aN) aH ⟨_,_,Z,_,aE,aD,gr,f.k Z,m,aF⟩ ?_
    clear aH f m
    rintro aM aS aT aU a w ⟨aN,aO,rfl,aP,aQ,aR,aV,f,m,aW⟩
    have aB:=Ow.mono (RSl.mono (RI.mono _)) aV aB
    refine Ag (Ae ?_)
    refine Ab f Z λa f=>Ab f Z λa f=>Bz 0 m aB Z underlying24 f Z Z λa f=>Aj f Z Z AP λa f=>Aa ?_
    rcases Af aT with⟨aX,aT⟩|⟨aX,aT⟩
    ·refine Al f Z aX ?_
     refine An ?_
     refine Ag (Ak (Ae ?_))
     refine Ac f Z λa f=>Aa (Ag (Ae ?_))
     refine Ab f Z λa f=>Ab f Z λa f=> ?_
     have⟨aY,aZ,aT⟩:=bind_some aT
     refine Bj 0 m aB Z T24 f Z Z Z aZ λa0 a a1 f=>Bl 0 m aB Z Br f Z Z a1 aZ λa2 a a3 f=>AZ underlying33 f Z Z a3 λa f=>Aj f Z Z Cu λa f=>Aa ?_
     have⟨a4,a5,aT⟩:=bind_some aT
     refine AM (λa w=>∃a6:Int,a6=a4∧∃(a7:GH),GLe aP a7∧Fr a 63 [(0,(iv x0)),(1,(iv x1)),(5,av),(6,(iv ar)),(7,aQ),(8,(iv aO)),(9,(iv a6))]∧Mem W a7 w (aw::aR::H)) ?_ ?_
     ·rcases Af a5 with⟨a8,a5⟩|⟨a8,a5⟩
      ·refine Al f Z a8 ?_
       refine Bp 14 A7 (by kernel_rfl) m ?_
       refine AJ 0 14 Z f Z λa f=>AJ 1 14 Z f Z λa f=> ?_
       have⟨a9,ba,a5⟩:=bind_some a5
       refine q_oa 2 14 0 m aB T24 ba Z f Z Z λbb a bc f=>q_ol 3 14 0 aB Br bc ba Z f Z λbd a be f=>AJ 4 14 Z f Z λa f=>AJ 5 14 Z f Z λa f=> ?_
       have⟨bf,bg,a5⟩:=bind_some a5
       refine q_oa 6 14 0 m aB T24 bg Z f Z Z λbh a bi f=>q_ol 7 14 0 aB Br bi bg Z f Z λbj a bk f=>q_len (i:=8) 14 underlying33 bk Z (by kernel_rfl) Z f Z Z Z λa f=>q_p 9 14 Z f (λ_=>Bm (f.e Z) (f.e Z) Ct) λa f=> ?_
       have⟨bl,bm,a5⟩:=bind_some a5
       refine B8 10 14 T33 be bm Z f Z Z λbn bo a bp bq f=> ?_
       subst bq
       refine B6 11 14 Pl2 bp Z f Z λa f=>q_p 12 14 Z f (λ_=>Bm (f.e Z) (f.e Z) Ay) λa f=>q_p 13 14 Z f (λ_=>A6 (f.e Z)) λa f=>Bd λbr w bs m=>Aa ?_
       obtain rfl:=sj a5
       exact⟨_,Z,_,bs,f.k Z,m⟩
      ·refine Ai f Z a8 ?_
       refine An ?_
       obtain rfl:=sj a5
       exact⟨_,Z,_,gr,f.k Z,m⟩
     ·rintro a w ⟨a6,rfl,a7,bt,f,m⟩
      have aB:=Ow.mono (RSl.mono (RI.mono _)) bt aB
      have aW:=Ow.mono (RSl.mono (RI.mono _)) bt aW
      refine Ae ?_
      refine Ab f Z λa f=>Ac f Z λa f=>Aa ?_
      have⟨bu,bv,aT⟩:=bind_some aT
      refine AM (λa w=>∃bw:LL,bw=bu∧∃(bx:GH) (bz:Value) (bA:Itm),GLe a7 bx∧Fr a 63 [(0,(iv x0)),(1,(iv x1)),(5,av),(6,(iv ar)),(7,bz),(8,(iv aO))]∧Mem W bx w (aw::bA::H)∧Ow R1 33 bx bA bz bw) ?_ ?_
      ·refine Ak ?_
       refine AI (λbB a w=>∃bC:LL,∃bD:Int,(bC,bD)=bB∧∃(bE:GH) (bF:Value) (bG:Itm),GLe a7 bE∧Fr a 63 [(0,(iv x0)),(1,(iv x1)),(5,av),(6,(iv ar)),(7,bF),(8,(iv aO)),(10,(iv bD))]∧Mem W bE w (aw::bG::H)∧Ow R1 33 bE bG bF bC) bv ⟨_,_,Z,_,aQ,aR,gr,f.k Z,m,aW⟩ ?_
       clear bv f m
       rintro bB bH bI bJ a w ⟨bC,bD,rfl,bE,bF,bG,bK,f,m,bL⟩
       have aB:=Ow.mono (RSl.mono (RI.mono _)) bK aB
       refine Ag (Ae ?_)
       refine Ab f Z λa f=>Ab f Z λa f=>Aj f Z Z AP λa f=>Aa ?_
       rcases Af bI with⟨bM,bI⟩|⟨bM,bI⟩
       ·refine Al f Z bM ?_
        refine An ?_
        refine Ag (Ak (Ah ?_))
        refine Ab f Z λa f=>Ab f Z λa f=>Ab f Z λa f=> ?_
        have⟨bN,bO,bI⟩:=bind_some bI
        refine Bj 0 m aB Z T24 f Z Z Z bO λbP a bQ f=>Bl 0 m aB Z Br f Z Z bQ bO λbR a bS f=> ?_
        have⟨bT,bU,bI⟩:=bind_some bI
        refine AA f Z call87 (Wk.E m bS bU) λbV bW bX w bY m bZ a f=> ?_
        obtain⟨b0,b1,rfl,rfl,b2⟩:=bZ
        have bL:=Ow.mono (RSl.mono (RI.mono _)) bY bL
        refine Ab f Z λa f=>AF (R:=R0) (xs:=([bD]:LI)) (RI.one _) m T33 f Z Z Z (by decide) (All2.cons Z (All2.nil _)) λb3 b4 w a m b5 f=> ?_
        have⟨b6,b7,bI⟩:=bind_some bI
        refine AT (RI.one _) 1 m b2 Z T33 Z (by decide) f Z Z Z (Ow.src (j:=0) b5 m Z) b7 λb8 b9 w a m ca f=> ?_
        have m:=m.fr 1
        obtain⟨cb,cc,m,cd⟩:=Ow.stamp (RI.mono _) ca m
        have bL:=Ow.mono (RSl.mono (RI.mono _)) cc bL
        refine AF (R:=R1) (xs:=([b6]:LL)) (RSl.one _) m T24 f Z Z Z (by decide) (All2.cons cd (All2.nil _)) λce cf w a m cg f=> ?_
        have⟨ch,ci,bI⟩:=bind_some bI
        refine AT (RSl.one _) 3 m bL Z T24 Z (by decide) f Z Z Z (Ow.src (j:=0) cg m Z) ci λcj ck w a m cl f=>Ac f Z λa f=>Aa (Ah ?_)
        refine Ab f Z λa f=>Aj f Z Z Ay λa f=>Ac f Z λa f=>Aa ?_
        have m:=m.fr 3
        have m:=m.fr 3
        have m:Mem W cb w (aw::cj::ce::H):=m.eraseAt 3
        have m:=m.eraseAt 2
        obtain rfl:=sj bI
        exact⟨_,Z,_,_,Z,_,ck,cj,(gt bK (gt bY cc)),f.k Z,m,cl⟩
       ·refine Ai f Z bM ?_
        refine AG Z ?_
        obtain rfl:=sj bI
        obtain rfl:=bJ _ rfl
        exact⟨_,Z,_,bF,bG,bK,f.k Z,m,bL⟩
      ·rintro a w ⟨bw,rfl,bx,bz,bA,cm,f,m,cn⟩
       refine Ah ?_
       refine Ab f Z λa f=>Aj f Z Z Ay λa f=>Ac f Z λa f=>Aa ?_
       obtain rfl:=sj aT
       exact⟨_,Z,_,_,Z,_,bz,bA,(gt aV (gt bt cm)),f.k Z,m,cn⟩
    ·refine Ai f Z aX ?_
     refine AG Z ?_
     have m:=m.fr 1
     have m:=m.eraseAt 1
     obtain rfl:=sj aT
     obtain rfl:=aU _ rfl
     exact⟨_,Z,_,aQ,aR,aV,f.k Z,m,aW⟩
   ·rintro a w ⟨aI,rfl,aJ,aK,aL,co,f,m,cp⟩
    refine Ah ?_
    refine Ab f Z λa f=>Ac f Z λa f=>Aa (Ah ?_)
    refine Ab f Z λa f=>Aj f Z Z Ay λa f=>Ac f Z λa f=>Aa ?_
    obtain rfl:=sj ay
    exact⟨_,Z,_,_,Z,_,aK,aL,(gt aA co),f.k Z,m,cp⟩
  ·refine Ai f Z aC ?_
   refine AG Z ?_
   obtain rfl:=sj ay
   obtain rfl:=az _ rfl
   exact⟨_,Z,_,av,aw,aA,f.k Z,m,aB⟩
 ·rintro a w ⟨al,rfl,am,an,ao,cq,f,m,cr⟩
  refine Ae ?_
  refine Ab f Z λa f=>Ac f Z λa f=>Aa ?_
  refine Ao ?_
  obtain rfl:=sj hd
  exact⟨[an],f.g Z,f.d,_,[ao],(gt ae cq),m,_,_,Z,Z,cr⟩
theorem Wk.d0 {aa v2:Value}{ab:LL}{x1:Int}{x2:LI}(m:Mem W G w (H))(ac:R2 G aa ab)(h2:R1 G v2 x2){y:(LI)}(hd:D.d0 ab x1 x2=some y):
  Calls prog 281 #[(.agg #[aa]),(iv x1),v2] w (Res W G H (λG' Ho v=>∃r0:Value,∃i0:Itm,Ho=[i0]∧r0=v∧Ow R0 2 G' i0 r0 y)):=by
 refine Ap (args:=[(.agg #[aa]),(iv x1),v2]) (N:=91) [.tmp 6] func281 Z Z (lb Z) Z λa f=> ?_
 unfold D.d0 at hd
 refine Ae ?_
 refine A8 (cs:=[aa]) m f Z Z Z λad w a m f=>Ac f Z λa f=>Az ?_
 refine AF (R:=R0) (xs:=([]:LI)) (RI.one _) m T33 f Z Z Z (by decide) (All2.nil _) λae af w a m ag f=>Ac f Z λa f=>Aa (Ag (Ae ?_))
 refine Ac f Z λa f=>Aa ?_
 have⟨ah,ai,hd⟩:=bind_some hd
 refine AM (λa w=>∃aj:LI,aj=ah∧∃(ak:GH) (al:Value) (am:Itm),GLe G ak∧Fr a 91 [(1,(iv x1)),(2,v2),(3,(pb ad)),(7,al)]∧Mem W ak w (ib ad 26 [aa]::am::H)∧Ow R0 2 ak am al aj) ?_ ?_
 ·refine Ak ?_
  have m:=m.fr 1
  refine AI (λan a w=>∃ao:LI,∃ap:Int,(ao,ap)=an∧∃(aq:GH) (ar:Value) (au:Itm),GLe G aq∧Fr a 91 [(1,(iv x1)),(2,v2),(3,(pb ad)),(7,ar),(8,(iv ap))]∧Mem W aq w (ib ad 26 [aa]::au::H)∧Ow R0 2 aq au ar ao) ai ⟨_,_,Z,_,af,ae,gr,f.k Z,m,ag⟩ ?_
  clear ai f m
  rintro an av aw ax a w ⟨ao,ap,rfl,aq,ar,au,ay,f,m,az⟩
  have ac:=rd2 ay ac
  refine Ag (Ae ?_)
  refine Ab f Z λa f=>Aw 0 0 (ds:=[aa]) m AE f Z Z Z Z Z λa f=> ?_
  have⟨aA,aB,aw⟩:=bind_some aw
  refine AR f Z call61 (Wk.b m ac aB) λaC w aD m a f=> ?_
  have az:=od1 aD az
  refine Aj f Z Z AP λa f=>Aa ?_
  rcases Af aw with⟨aE,aw⟩|⟨aE,aw⟩
  ·refine Al f Z aE ?_
   refine An ?_
   refine Ag (Ak (Ah ?_))
   refine Ab f Z λa f=>AF (R:=R0) (xs:=([(-1)]:LI)) (RI.one _) m T33 f Z Z Z (by decide) (All2.cons Z (All2.nil _)) λaF aG w a m aH f=> ?_
   have⟨aI,aJ,aw⟩:=bind_some aw
   refine AT (RI.one _) 2 m az Z T33 Z (by decide) f Z Z Z (Ow.src (j:=0) aH m Z) aJ λaK aL w a m aM f=>Ac f Z λa f=>Aa (Ah ?_)
   refine Ab f Z λa f=>Aj f Z Z Ay λa f=>Ac f Z λa f=>Aa ?_
   have m:=m.fr 2
   have m:=m.fr 2
   have m:=m.eraseAt 2
   obtain rfl:=sj aw
   exact⟨_,Z,_,_,Z,_,aL,aK,(gt ay aD),f.k Z,m,aM⟩
  ·refine Ai f Z aE ?_
   refine AG Z ?_
   obtain rfl:=sj aw
   obtain rfl:=ax _ rfl
   exact⟨_,Z,_,ar,au,(gt ay aD),f.k Z,m,az⟩
 ·rintro a w ⟨aj,rfl,ak,al,am,aN,f,m,aO⟩
  have h2:=rd1 aN h2
  have ac:=rd2 aN ac
  refine Ag (Ae ?_)
  refine Ab f Z λa f=>Ab f Z λa f=> ?_
  have⟨aP,aQ,hd⟩:=bind_some hd
  refine AR f Z call64 (Wk.e m h2 aQ) λaR w aS m a f=> ?_
  have h2:=rd1 aS h2
  have ac:=rd2 aS ac
  have aO:=od1 aS aO
  refine l_o f (Bc (f.e Z)) λa f=>Aa ?_
  rcases Af hd with⟨aT,hd⟩|⟨aT,hd⟩
  ·refine Al f Z aT ?_
   refine Ae ?_
   refine Ab f Z λa f=>Ac f Z λa f=>Aa ?_
   refine Ao ?_
   have m:=m.fr 1
   have m:=m.eraseAt 1
   obtain rfl:=sj hd
   exact⟨[al],f.g Z,f.d,_,[am],(gt aN aS),m,_,_,Z,Z,aO⟩
  ·refine Ai f Z aT ?_
   refine An ?_
   refine Ae ?_
   refine Ab f Z λa f=>Ab f Z λa f=> ?_
   have⟨aU,aV,hd⟩:=bind_some hd
   refine Bj 1 m aO Z T33 f Z Z Z aV λaW a aX f=>Cg 1 m aO Z sizeOf2 f Z Z aX aV Z Z Z λaY w m aZ=>Az ?_
   refine Ab f Z λa f=>AF (R:=R0) (xs:=([x1]:LI)) (RI.one _) m T33 f Z Z Z (by decide) (All2.cons Z (All2.nil _)) λa0 a1 w a m a2 f=>Ac f Z λa f=>Aa (Ag (Ae ?_))
   refine Ac f Z λa f=>Aa ?_
   have⟨a3,a4,hd⟩:=bind_some hd
   refine AM (λa w=>∃a5:LI,a5=a3∧∃(a6:GH) (a7:Itm),GLe aR a6∧Fr a 91 [(7,al)]∧Mem W a6 w (a7::H)∧Ow R0 2 a6 a7 al a5) ?_ ?_
   ·refine Ak ?_
    have m:=m.fr 2
    have m:=m.fr 2
    refine AI (λa8 a w=>∃a9:LI,∃ba:LI,∃bb:Int,(a9,ba,bb)=a8∧∃(bc:GH) (bd:Itm) (be:Value) (bf:Itm),GLe aR bc∧Fr a 91 [(2,v2),(3,(pb ad)),(7,al),(9,be),(10,(iv bb))]∧Mem W bc w (ib ad 26 [aa]::bd::bf::H)∧Ow R0 2 bc bd al a9∧Ow R0 2 bc bf be ba) a4 ⟨_,_,_,Z,_,aY,a1,a0,gr,f.k Z,m,aZ,a2⟩ ?_
    clear a4 f m
    rintro a8 bg bh bi a w ⟨a9,ba,bb,rfl,bc,bd,be,bf,bj,f,m,bk,bl⟩
    have h2:=rd1 bj h2
    have ac:=rd2 bj ac
    refine Ag (Ae ?_)
    refine Ab f Z λa f=>Ab f Z λa f=>Bz 2 m bl Z underlying33 f Z Z λa f=>Aj f Z Z AP λa f=>Aa ?_
    rcases Af bh with⟨bm,bh⟩|⟨bm,bh⟩
    ·refine Al f Z bm ?_
     refine An ?_
     refine Ag (Ak (Ag ?_))
     refine Bp 9 A7 (by kernel_rfl) m ?_
     refine CC 0 9 underlying26 Z sizeOf24 Z f Z λa f=>Ce 1 9 0 BH Z Z Z f Z λa f=>AJ 2 9 Z f Z λa f=>AJ 3 9 Z f Z λa f=> ?_
     have⟨bn,bo,bh⟩:=bind_some bh
     refine q_oa 4 9 2 m bl T33 bo Z f Z Z λbp a bq f=>q_ol 5 9 2 bl Pl2 bq bo Z f Z λbr a bs f=> ?_
     subst bs
     have⟨bt,bu,bh⟩:=bind_some bh
     refine B8 6 9 T24 ac bu Z f Z Z λbv bw a bx bz f=>B6 7 9 Br bx Z f Z λa f=>q_p 8 9 Z f (λ_=>A6 (f.e Z)) λa f=>Bd λbA w bB m=> ?_
     have h2:=rd1 bB h2
     have bz:=rd1 bB bz
     have bk:=od1 bB bk
     have bl:=od1 bB bl
     refine Az ?_
     refine Ac f Z λa f=>Aa ?_
     have⟨bC,bD,bh⟩:=bind_some bh
     refine AM (λa w=>∃bE:LI,∃bF:LI,(bE,bF)=bC∧∃(bG:GH) (bH:Itm) (bI:Value) (bJ:Itm),GLe bA bG∧Fr a 91 [(2,v2),(3,(pb ad)),(7,al),(9,bI),(10,(iv bb))]∧Mem W bG w (ib ad 26 [aa]::bH::bJ::H)∧Ow R0 2 bG bH al bE∧Ow R0 2 bG bJ bI bF) ?_ ?_
     ·refine Ak ?_
      refine AI (λbK a w=>∃bL:LI,∃bM:LI,∃bN:Int,(bL,bM,bN)=bK∧∃(bO:GH) (bP:Itm) (bQ:Value) (bR:Itm),GLe bA bO∧Fr a 91 [(2,v2),(3,(pb ad)),(7,al),(9,bQ),(10,(iv bb)),(11,bw),(12,(iv bN))]∧Mem W bO w (ib ad 26 [aa]::bP::bR::H)∧Ow R0 2 bO bP al bL∧Ow R0 2 bO bR bQ bM) bD ⟨_,_,_,Z,_,bd,be,bf,gr,f.k Z,m,bk,bl⟩ ?_
      clear bD f m
      rintro bK bS bT bU a w ⟨bL,bM,bN,rfl,bO,bP,bQ,bR,bV,f,m,bW,bX⟩
      have h2:=rd1 bV h2
      have bz:=rd1 bV bz
      refine Ag (Ae ?_)
      refine Ab f Z λa f=>Ab f Z λa f=>AZ underlying33 f Z Z bz λa f=>Aj f Z Z AP λa f=>Aa ?_
      rcases Af bT with⟨bY,bT⟩|⟨bY,bT⟩
      ·refine Al f Z bY ?_
       refine An ?_
       refine Ag (Ak (Ae ?_))
       refine Ab f Z λa f=>Ab f Z λa f=>Ab f Z λa f=> ?_
       have⟨bZ,b0,bT⟩:=bind_some bT
       refine Be T33 f Z Z Z bz b0 λb1 b2 a b3 b4 f=> ?_
       subst b4
       refine AK m Pl2 f Z Z b3 λa f=> ?_
       have⟨b5,b6,bT⟩:=bind_some bT
       refine Bj 1 m bW Z T33 f Z Z Z b6 λb7 a b8 f=>Bl 1 m bW Z Pl2 f Z Z b8 b6 λb9 a ca f=> ?_
       subst ca
       refine Aj f Z Z AP λa f=>Ab f Z λa f=> ?_
       have⟨cb,cc,bT⟩:=bind_some bT
       refine Bh 7 (λa w=>∃cd,GLe bO cd∧Mem W cd w (ib ad 26 [aa]::bP::bR::H)∧Fr a 91 [(2,v2),(3,(pb ad)),(7,al),(9,bQ),(10,(iv bb)),(11,bw),(12,(iv bN)),(50,(.bool (decide (bN<(bt.length:Int))))),(53,al),(54,bw),(55,(iv bN)),(56,b1),(57,(iv bZ)),(58,b7),(59,(iv b5)),(60,(.bool (decide (b5<0)))),(61,(.bool (decide (b5<0)))),(68,(.bool cb))]) ?_ ?_
       ·rcases Af cc with⟨ce,cc⟩|⟨ce,cc⟩
        ·refine As f ce ?_
         refine Ab f Z λa f=>As f ce ?_
         refine Ab f Z λa f=>As f ce ?_
         refine Ab f Z λa f=>As f ce ?_
         have⟨cf,cg,cc⟩:=bind_some cc
         refine Be T33 f Z Z Z bz cg λch ci a cj ck f=> ?_
         subst ck
         refine As f ce ?_
         refine AK m Pl2 f Z Z cj λa f=>As f ce ?_
         have⟨cl,cm,cc⟩:=bind_some cc
         refine AR f Z call64 (Wk.e m h2 cm) λcn w co m a f=>l_o f (AW (f.e Z) ce (f.e Z)) λa f=> ?_
         obtain rfl:=sj cc
         exact⟨_,co,m,f.k Z⟩
        ·refine Au f ce λa f=> ?_
         refine Au f ce λa f=>Au f ce λa f=>Au f ce λa f=>Au f ce λa f=>Au f ce λa f=>l_o f (AX (f.e Z) ce (f.e Z)) λa f=> ?_
         obtain rfl:=sj cc
         exact⟨_,gr,m,f.k Z⟩
       ·rintro a w ⟨cd,cp,m,f⟩
        have bz:=rd1 cp bz
        have bW:=od1 cp bW
        have bX:=od1 cp bX
        refine Aa ?_
        rcases Af bT with⟨cq,bT⟩|⟨cq,bT⟩
        ·refine Al f Z cq ?_
         refine Ag ?_
         refine Bp 14 A7 (by kernel_rfl) m ?_
         refine AJ 0 14 Z f Z λa f=>AJ 1 14 Z f Z λa f=>AJ 2 14 Z f Z λa f=> ?_
         have⟨cr,ct,bT⟩:=bind_some bT
         refine B8 3 14 T33 bz ct Z f Z Z λcu cv a cw cx f=> ?_
         subst cx
         refine B6 4 14 Pl2 cw Z f Z λa f=>AJ 5 14 Z f Z λa f=>AJ 6 14 Z f Z λa f=>AJ 7 14 Z f Z λa f=> ?_
         have⟨cy,cz,bT⟩:=bind_some bT
         refine q_oa 8 14 2 m bX T33 cz Z f Z Z λcA a cB f=>q_ol 9 14 2 bX Pl2 cB cz Z f Z λcC a cD f=> ?_
         subst cD
         have⟨cE,cF,bT⟩:=bind_some bT
         refine q_oa 10 14 1 m bW T33 cF Z f Z Z λcG a cH f=>q_ol 11 14 1 bW Pl2 cH cF Z f Z λcI a cJ f=> ?_
         subst cJ
         refine q_p 12 14 Z f (λ_=>Bm (f.e Z) (f.e Z) Ay) λa f=> ?_
         have⟨cK,cL,bT⟩:=bind_some bT
         refine q_oa 13 14 1 m bW T33 cL Z f Z Z λcM a cN f=>Bd λcO w cP m=> ?_
         have bz:=rd1 cP bz
         have bW:=od1 cP bW
         have bX:=od1 cP bX
         refine Cg 1 m bW Z sizeOf2 f Z Z cN cL Z Z Z λcQ w m cR=>Aa (Ah ?_)
         refine Ab f Z λa f=>Ab f Z λa f=>Ab f Z λa f=> ?_
         have⟨cS,cT,bT⟩:=bind_some bT
         refine Be T33 f Z Z Z bz cT λcU cV a cW cX f=> ?_
         subst cX
         refine AK m Pl2 f Z Z cW λa f=>AF (R:=R0) (xs:=([cS]:LI)) (RI.one _) m T33 f Z Z Z (by decide) (All2.cons Z (All2.nil _)) λcY cZ w a m c0 f=> ?_
         have⟨c1,c2,bT⟩:=bind_some bT
         refine AT (RI.one _) 3 m bX Z T33 Z (by decide) f Z Z Z (Ow.src (j:=0) c0 m Z) c2 λc3 c4 w a m c5 f=>Ac f Z λa f=>Aa (Ah ?_)
         refine Ab f Z λa f=>Aj f Z Z Ay λa f=>Ac f Z λa f=>Aa ?_
         have m:=m.fr 3
         have m:=m.fr 3
         have m:Mem W cO w (ib ad 26 [aa]::cQ::c3::cY::H):=m.fr 3
         have m:=m.eraseAt 3
         obtain rfl:=sj bT
         exact⟨_,Z,_,_,_,Z,_,cQ,c4,c3,(gt bV (gt cp cP)),f.k Z,m,cR,c5⟩
        ·refine Ai f Z cq ?_
         refine An ?_
         refine Ah ?_
         refine Ab f Z λa f=>Aj f Z Z Ay λa f=>Ac f Z λa f=>Aa ?_
         obtain rfl:=sj bT
         exact⟨_,Z,_,_,_,Z,_,bP,bQ,bR,(gt bV cp),f.k Z,m,bW,bX⟩
      ·refine Ai f Z bY ?_
       refine AG Z ?_
       obtain rfl:=sj bT
       obtain rfl:=bU _ rfl
       exact⟨_,_,Z,_,bP,bQ,bR,bV,f.k Z,m,bW,bX⟩
     ·rintro a w ⟨bE,bF,rfl,bG,bH,bI,bJ,c6,f,m,c7,c8⟩
      refine Ah ?_
      refine Ab f Z λa f=>Aj f Z Z Ay λa f=>Ac f Z λa f=>Aa ?_
      obtain rfl:=sj bh
      exact⟨_,Z,_,_,_,Z,_,bH,bI,bJ,(gt bj (gt bB c6)),f.k Z,m,c7,c8⟩
    ·refine Ai f Z bm ?_
     refine AG Z ?_
     have m:=m.fr 1
     have m:=m.eraseAt 2
     have m:=m.eraseAt 1
     obtain rfl:=sj bh
     obtain rfl:=bi _ rfl
     exact⟨_,Z,_,bd,bj,f.k Z,m,bk⟩
   ·rintro a w ⟨a5,rfl,a6,a7,c9,f,m,da⟩
    refine Ae ?_
    refine Ab f Z λa f=>Ac f Z λa f=>Aa ?_
    refine Ao ?_
    obtain rfl:=sj hd
    exact⟨[al],f.g Z,f.d,_,[a7],(gt aN (gt aS c9)),m,_,_,Z,Z,da⟩
theorem Wk.k {aa v2:Value}{ab:LL}{x1:Int}{x2:LI}(m:Mem W G w (H))(ac:R2 G aa ab)(h2:R1 G v2 x2){y:(LI)}(hd:D.k ab x1 x2=some y):
  Calls prog 253 #[(.agg #[aa]),(iv x1),v2] w (Res W G H (λG' Ho v=>∃r0:Value,∃i0:Itm,Ho=[i0]∧r0=v∧Ow R0 2 G' i0 r0 y)):=by
 refine Ap (args:=[(.agg #[aa]),(iv x1),v2]) (N:=31) [.tmp 6] func253 Z Z (lb Z) Z λa f=> ?_
 unfold D.k at hd
 refine Ae ?_
 refine A8 (cs:=[aa]) m f Z Z Z λad w a m f=>Ac f Z λa f=>Az ?_
 refine Aw 0 0 (ds:=[aa]) m AE f Z Z Z Z Z λa f=>Ab f Z λa f=>Ab f Z λa f=> ?_
 have⟨ae,af,hd⟩:=bind_some hd
 refine AA f Z call281 (Wk.d0 m ac h2 af) λag ah ai w aj m ak a f=> ?_
 obtain⟨al,am,rfl,rfl,an⟩:=ak
 refine Ac f Z λa f=>Az ?_
 refine AF (R:=R0) (xs:=([]:LI)) (RI.one _) m T33 f Z Z Z (by decide) (All2.nil _) λao ap w a m aq f=>Ac f Z λa f=>Aa (Ag (Ae ?_))
 refine Ac f Z λa f=>Aa ?_
 have⟨ar,au,hd⟩:=bind_some hd
 refine AM (λa w=>∃av:LI,av=ar∧∃(aw:GH) (ax:Value) (ay:Itm),GLe ah aw∧Fr a 31 [(8,ax)]∧Mem W aw w (ay::H)∧Ow R0 2 aw ay ax av) ?_ ?_
 ·refine Ak ?_
  have m:=m.fr 1
  have m:=m.eraseAt 2
  refine AI (λaz a w=>∃aA:LI,∃aB:Int,(aA,aB)=az∧∃(aC:GH) (aD:Value) (aE:Itm),GLe ah aC∧Fr a 31 [(7,al),(8,aD),(9,(iv aB))]∧Mem W aC w (am::aE::H)∧Ow R0 2 aC aE aD aA) au ⟨_,_,Z,_,ap,ao,gr,f.k Z,m,aq⟩ ?_
  clear au f m
  rintro az aF aG aH a w ⟨aA,aB,rfl,aC,aD,aE,aI,f,m,aJ⟩
  have an:=od1 aI an
  refine Ag (Ae ?_)
  refine Ab f Z λa f=>Ab f Z λa f=>Bz 0 m an Z underlying33 f Z Z λa f=>Aj f Z Z AP λa f=>Aa ?_
  rcases Af aG with⟨aK,aG⟩|⟨aK,aG⟩
  ·refine Al f Z aK ?_
   refine An ?_
   refine Ag (Ak (Ae ?_))
   refine Ab f Z λa f=>Ab f Z λa f=> ?_
   have⟨aL,aM,aG⟩:=bind_some aG
   refine Bj 0 m an Z T33 f Z Z Z aM λaN a aO f=>Bl 0 m an Z Pl2 f Z Z aO aM λaP a aQ f=> ?_
   subst aQ
   refine Aj f Z Z Dv λa f=>Aa ?_
   rcases Af aG with⟨aR,aG⟩|⟨aR,aG⟩
   ·refine Al f Z aR ?_
    refine Ah ?_
    refine Ab f Z λa f=>Ab f Z λa f=>AF (R:=R0) (xs:=([aB]:LI)) (RI.one _) m T33 f Z Z Z (by decide) (All2.cons Z (All2.nil _)) λaS aT w a m aU f=> ?_
    have⟨aV,aW,aG⟩:=bind_some aG
    refine AT (RI.one _) 2 m aJ Z T33 Z (by decide) f Z Z Z (Ow.src (j:=0) aU m Z) aW λaX aY w a m aZ f=>Ac f Z λa f=>Aa (Ah ?_)
    refine Ab f Z λa f=>Aj f Z Z Ay λa f=>Ac f Z λa f=>Aa ?_
    have m:=m.fr 2
    have m:=m.fr 2
    have m:=m.eraseAt 2
    obtain rfl:=sj aG
    exact⟨_,Z,_,_,Z,_,aY,aX,aI,f.k Z,m,aZ⟩
   ·refine Ai f Z aR ?_
    refine An ?_
    refine Ah ?_
    refine Ab f Z λa f=>Aj f Z Z Ay λa f=>Ac f Z λa f=>Aa ?_
    obtain rfl:=sj aG
    exact⟨_,Z,_,_,Z,_,aD,aE,aI,f.k Z,m,aJ⟩
  ·refine Ai f Z aK ?_
   refine AG Z ?_
   have m:=m.fr 1
   have m:=m.eraseAt 1
   obtain rfl:=sj aG
   obtain rfl:=aH _ rfl
   exact⟨_,Z,_,aD,aE,aI,f.k Z,m,aJ⟩
 ·rintro a w ⟨av,rfl,aw,ax,ay,a0,f,m,a1⟩
  refine Ae ?_
  refine Ab f Z λa f=>Ac f Z λa f=>Aa ?_
  refine Ao ?_
  obtain rfl:=sj hd
  exact⟨[ax],f.g Z,f.d,_,[ay],(gt aj a0),m,_,_,Z,Z,a1⟩
theorem Wk.w0 {aa v1:Value}{ab:LL}{x1:LI}(m:Mem W G w (H))(ac:R2 G aa ab)(h1:R1 G v1 x1){y:(LL)}(hd:D.w0 ab x1=some y):
  Calls prog 249 #[(.agg #[aa]),v1] w (Res W G H (λG' Ho v=>∃r0:Value,∃i0:Itm,Ho=[i0]∧r0=v∧Ow R1 33 G' i0 r0 y)):=by
 refine Ap (args:=[(.agg #[aa]),v1]) (N:=39) [.tmp 4] func249 Z Z (lb Z) Z λa f=> ?_
 unfold D.w0 at hd
 refine Ae ?_
 refine A8 (cs:=[aa]) m f Z Z Z λad w a m f=>Ac f Z λa f=>Az ?_
 refine AF (R:=R1) (xs:=([]:LL)) (RSl.one _) m T24 f Z Z Z (by decide) (All2.nil _) λae af w a m ag f=>Ac f Z λa f=>Az ?_
 refine AF (R:=R0) (xs:=([]:LI)) (RI.one _) m T33 f Z Z Z (by decide) (All2.nil _) λah ai w a m aj f=>Ac f Z λa f=>Aa (Ag (Ae ?_))
 refine Ac f Z λa f=>Aa ?_
 have⟨ak,al,hd⟩:=bind_some hd
 refine AM (λa w=>∃am:LL,am=ak∧∃(an:GH) (ao:Value) (ap:Itm),GLe G an∧Fr a 39 [(5,ao)]∧Mem W an w (ap::H)∧Ow R1 33 an ap ao am) ?_ ?_
 ·refine Ak ?_
  have m:=m.fr 1
  have m:=m.fr 2
  refine AI (λaq a w=>∃ar:LL,∃au:LI,∃av:Int,(ar,au,av)=aq∧∃(aw:GH) (ax:Value) (ay:Itm) (az:Value) (aA:Itm),GLe G aw∧Fr a 39 [(1,v1),(2,(pb ad)),(5,ax),(6,az),(7,(iv av))]∧Mem W aw w (ib ad 26 [aa]::ay::aA::H)∧Ow R1 33 aw ay ax ar∧Ow R0 2 aw aA az au) al ⟨_,_,_,Z,_,af,ae,ai,ah,gr,f.k Z,m,ag,aj⟩ ?_
  clear al f m
  rintro aq aB aC aD a w ⟨ar,au,av,rfl,aw,ax,ay,az,aA,aE,f,m,aF,aG⟩
  have h1:=rd1 aE h1
  have ac:=rd2 aE ac
  refine Ag (Ae ?_)
  refine Ab f Z λa f=>Ab f Z λa f=>AZ underlying33 f Z Z h1 λa f=>Aj f Z Z AP λa f=>Aa ?_
  rcases Af aC with⟨aH,aC⟩|⟨aH,aC⟩
  ·refine Al f Z aH ?_
   refine An ?_
   refine Ag (Ak (Ae ?_))
   refine Ab f Z λa f=>Ab f Z λa f=>Ab f Z λa f=> ?_
   have⟨aI,aJ,aC⟩:=bind_some aC
   refine Be T33 f Z Z Z h1 aJ λaK aL a aM aN f=> ?_
   subst aN
   refine AK m Pl2 f Z Z aM λa f=> ?_
   have⟨aO,aP,aC⟩:=bind_some aC
   refine AA f Z call64 (Ow.lendCall (RI.mono _) 2 aG m Z (λaQ aR m aS=>Wk.e m aS aP) (λ_ _ _ _ h=>h)) λaT aU aV w aW m aX a f=> ?_
   obtain⟨rfl,rfl⟩:=aX
   have h1:=rd1 aW h1
   have ac:=rd2 aW ac
   have aF:=Ow.mono (RSl.mono (RI.mono _)) aW aF
   have aG:=od1 aW aG
   refine l_o f (Bc (f.e Z)) λa f=>Aa ?_
   rcases Af aC with⟨aY,aC⟩|⟨aY,aC⟩
   ·refine Al f Z aY ?_
    refine Ag ?_
    refine Bp 8 A7 (by kernel_rfl) m ?_
    refine BX (i:=0) (ds:=[aa]) 8 0 AE Z Z Z Z (by kernel_rfl) Z f Z Z Z λa f=>AJ 1 8 Z f Z λa f=>AJ 2 8 Z f Z λa f=> ?_
    have⟨aZ,a0,aC⟩:=bind_some aC
    refine B8 3 8 T33 h1 a0 Z f Z Z λa1 a2 a a3 a4 f=> ?_
    subst a4
    refine B6 4 8 Pl2 a3 Z f Z λa f=>AJ 5 8 Z f Z λa f=>Bs 6 Z λa5 w a6 m a7 a7=> ?_
    have h1:=rd1 a6 h1
    have ac:=rd2 a6 ac
    have aF:=Ow.mono (RSl.mono (RI.mono _)) a6 aF
    have aG:=od1 a6 aG
    have⟨a8,a9,aC⟩:=bind_some aC
    refine AA f Z call253 (Wk.k m ac h1 a9) λba bb bc w bd m be a f=> ?_
    obtain⟨bf,bg,rfl,rfl,bh⟩:=be
    have aF:=Ow.mono (RSl.mono (RI.mono _)) bd aF
    have aG:=od1 bd aG
    refine Aa ?_
    refine a7 bb [bg] _ _ bd m ?_
    refine q_p 7 8 Z f (λ_=>A6 (f.e Z)) λa f=>Bd λbi w bj m=> ?_
    have bh:=od1 bj bh
    have aF:=Ow.mono (RSl.mono (RI.mono _)) bj aF
    have aG:=od1 bj aG
    refine Az ?_
    refine Ab f Z λa f=>Ab f Z λa f=> ?_
    obtain⟨bk,bl,m,bm⟩:=Ow.stamp (RI.mono _) bh m
    have aF:=Ow.mono (RSl.mono (RI.mono _)) bl aF
    have aG:=od1 bl aG
    refine AF (R:=R1) (xs:=([a8]:LL)) (RSl.one _) m T24 f Z Z Z (by decide) (All2.cons bm (All2.nil _)) λbn bo w a m bp f=> ?_
    have⟨bq,br,aC⟩:=bind_some aC
    refine AT (RSl.one _) 2 m aF Z T24 Z (by decide) f Z Z Z (Ow.src (j:=0) bp m Z) br λbs bt w a m bu f=>Ac f Z λa f=>Aa (Ah ?_)
    refine Ab f Z λa f=>Ab f Z λa f=> ?_
    have⟨bv,bw,aC⟩:=bind_some aC
    refine AT (RI.one _) 3 m aG Z T33 Z (by decide) f Z Z Z (bm.src m) bw λbx bz w a m bA f=>Ac f Z λa f=>Aa (Ah ?_)
    refine Ab f Z λa f=>Aj f Z Z Ay λa f=>Ac f Z λa f=>Aa ?_
    have m:=m.fr 3
    have m:=m.fr 3
    have m:Mem W bk w (ib ad 26 [aa]::bs::bx::bn::H):=m.fr 3
    have m:=m.eraseAt 3
    obtain rfl:=sj aC
    exact⟨_,Z,_,_,_,Z,_,bt,bs,bz,bx,(gt aE (gt aW (gt a6 (gt bd (gt bj bl))))),f.k Z,m,bu,bA⟩
   ·refine Ai f Z aY ?_
    refine An ?_
    refine Ah ?_
    refine Ab f Z λa f=>Aj f Z Z Ay λa f=>Ac f Z λa f=>Aa ?_
    obtain rfl:=sj aC
    exact⟨_,Z,_,_,_,Z,_,ax,ay,az,aA,(gt aE aW),f.k Z,m,aF,aG⟩
  ·refine Ai f Z aH ?_
   refine AG Z ?_
   have m:=m.fr 1
   have m:=m.eraseAt 2
   have m:=m.eraseAt 1
   obtain rfl:=sj aC
   obtain rfl:=aD _ rfl
   exact⟨_,Z,_,ax,ay,aE,f.k Z,m,aF⟩
 ·rintro a w ⟨am,rfl,an,ao,ap,bB,f,m,bC⟩
  refine Ae ?_
  refine Ab f Z λa f=>Ac f Z λa f=>Aa ?_
  refine Ao ?_
  obtain rfl:=sj hd
  exact⟨[ao],f.g Z,f.d,_,[ap],bB,m,_,_,Z,Z,bC⟩
theorem Wk.v0 {aa:Value}{ab:LL}{x1 x2:Int}(m:Mem W G w (H))(ac:R2 G aa ab){y:Bool}(hd:D.v0 ab x1 x2=some y):
  Calls prog 255 #[(.agg #[aa]),(iv x1),(iv x2)] w (Res W G H (λ_ Ho v=>Ho=[]∧v=(.bool y))):=by
 refine Ap (args:=[(.agg #[aa]),(iv x1),(iv x2)]) (N:=14) [.tmp 6] func255 Z Z (lb Z) Z λa f=> ?_
 unfold D.v0 at hd
 refine Ae ?_
 refine A8 (cs:=[aa]) m f Z Z Z λad w a m f=>Ac f Z λa f=>Az ?_
 refine BQ underlying26 Z sizeOf24 f Z λa f=>AV 0 0 m BH f Z Z Z Z λa f=>Ab f Z λa f=> ?_
 have⟨ae,af,hd⟩:=bind_some hd
 refine Be T24 f Z Z Z ac af λag ah a ai aj f=>AK m Br f Z Z ai λa f=>Ab f Z λa f=> ?_
 have⟨ak,al,hd⟩:=bind_some hd
 refine AR f Z call64 (Wk.e m aj al) λam w an m a f=>Ac f Z λa f=>Aa ?_
 refine Ao ?_
 have m:Mem W am w H:=Mem.drop (H':=[ib ad 26 [aa]]) m
 obtain rfl:=sj hd
 exact⟨[(.bool ak)],f.g Z,f.d,_,[],an,m,Z,Z⟩
theorem Wk.c0 {aa v1:Value}{ab:LL}{x1:LI}{x2:Int}(m:Mem W G w (H))(ac:R2 G aa ab)(h1:R1 G v1 x1){y:Int}(hd:D.c0 ab x1 x2=some y):
  Calls prog 179 #[(.agg #[aa]),v1,(iv x2)] w (Res W G H (λ_ Ho v=>Ho=[]∧v=(iv y))):=by
 refine Ap (args:=[(.agg #[aa]),v1,(iv x2)]) (N:=26) [.tmp 6] func179 Z Z (lb Z) Z λa f=> ?_
 unfold D.c0 at hd
 refine Ae ?_
 refine A8 (cs:=[aa]) m f Z Z Z λad w a m f=>Ac f Z λa f=>Az ?_
 refine Ac f Z λa f=>Aa (Ag (Ae ?_))
 refine Ac f Z λa f=>Aa ?_
 have⟨ae,af,hd⟩:=bind_some hd
 refine AM (λa w=>∃ag:Int,ag=ae∧∃(ah:GH),GLe G ah∧Fr a 26 [(7,(iv ag))]∧Mem W ah w (H)) ?_ ?_
 ·refine Ak ?_
  refine AI (λai a w=>∃aj:Int,∃ak:Int,(aj,ak)=ai∧∃(al:GH),GLe G al∧Fr a 26 [(1,v1),(2,(iv x2)),(3,(pb ad)),(7,(iv aj)),(8,(iv ak))]∧Mem W al w (ib ad 26 [aa]::H)) af ⟨_,_,Z,_,gr,f.k Z,m⟩ ?_
  clear af f m
  rintro ai am an ao a w ⟨aj,ak,rfl,al,ap,f,m⟩
  have h1:=rd1 ap h1
  have ac:=rd2 ap ac
  refine Ag (Ae ?_)
  refine Ab f Z λa f=>Ab f Z λa f=>AZ underlying33 f Z Z h1 λa f=>Aj f Z Z AP λa f=>Aa ?_
  rcases Af an with⟨aq,an⟩|⟨aq,an⟩
  ·refine Al f Z aq ?_
   refine An ?_
   refine Ag (Ak ?_)
   refine Bp 11 A7 (by kernel_rfl) m ?_
   refine AJ 0 11 Z f Z λa f=>BX (i:=1) (ds:=[aa]) 11 0 AE Z Z Z Z (by kernel_rfl) Z f Z Z Z λa f=>AJ 2 11 Z f Z λa f=>AJ 3 11 Z f Z λa f=> ?_
   have⟨ar,au,an⟩:=bind_some an
   refine B8 4 11 T33 h1 au Z f Z Z λav aw a ax ay f=> ?_
   subst ay
   refine B6 5 11 Pl2 ax Z f Z λa f=>AJ 6 11 Z f Z λa f=> ?_
   have⟨az,aA,an⟩:=bind_some an
   refine B7 (i:=7) 11 Z (by kernel_rfl) Z f Z Z Z call255 (λ_ _ w aB m=>Wk.v0 m (rd2 aB ac) aA) λa f=> ?_
   have⟨aC,aD,an⟩:=bind_some an
   refine B7 (i:=8) 11 Z (by kernel_rfl) Z f Z Z Z call254 (λ_ _ w aE m=>Wk.A m aD) λa f=>q_p 9 11 Z f (λ_=>Bm (f.e Z) (f.e Z) Ay) λa f=>q_p 10 11 Z f (λ_=>A6 (f.e Z)) λa f=>Bd λaF w aG m=>Aa (Ah ?_)
   refine Ab f Z λa f=>Aj f Z Z Ay λa f=>Ac f Z λa f=>Aa ?_
   obtain rfl:=sj an
   exact⟨_,Z,_,_,Z,_,(gt ap aG),f.k Z,m⟩
  ·refine Ai f Z aq ?_
   refine AG Z ?_
   have m:Mem W al w H:=Mem.drop (H':=[ib ad 26 [aa]]) m
   obtain rfl:=sj an
   obtain rfl:=ao _ rfl
   exact⟨_,Z,_,ap,f.k Z,m⟩
 ·rintro a w ⟨ag,rfl,ah,aH,f,m⟩
  refine Ae ?_
  refine Ab f Z λa f=>Ac f Z λa f=>Aa ?_
  refine Ao ?_
  obtain rfl:=sj hd
  exact⟨[(iv ag)],f.g Z,f.d,_,[],aH,m,Z,Z⟩
theorem Wk.X {aa v1 v2:Value}{ab:LL}{x1 x2:LI}(m:Mem W G w (H))(ac:R2 G aa ab)(h1:R1 G v1 x1)(h2:R1 G v2 x2){y:Bool}(hd:D.X ab x1 x2=some y):
  Calls prog 60 #[(.agg #[aa]),v1,v2] w (Res W G H (λ_ Ho v=>Ho=[]∧v=(.bool y))):=by
 refine Ap (args:=[(.agg #[aa]),v1,v2]) (N:=30) [.tmp 6] func60 Z Z (lb Z) Z λa f=> ?_
 unfold D.X at hd
 refine Ae ?_
 refine A8 (cs:=[aa]) m f Z Z Z λad w a m f=>Ac f Z λa f=>Aa (Ag (Ae ?_))
 refine Ac f Z λa f=>Aa ?_
 have⟨ae,af,hd⟩:=bind_some hd
 refine AM (λa w=>∃q_75':Unit,ae= .inl q_75'∧∃(ag:GH),GLe G ag∧Fr a 30 []∧Mem W ag w (H)) ?_ ?_
 ·refine Ak ?_
  refine AI (λah a w=>∃ai:Int,ai=ah∧∃(aj:GH),GLe G aj∧Fr a 30 [(1,v1),(2,v2),(3,(pb ad)),(7,(iv ai))]∧Mem W aj w (ib ad 26 [aa]::H)) af ⟨_,Z,_,gr,f.k Z,m⟩ ?_
  clear af f m
  rintro ah ak al am a w ⟨ai,rfl,aj,an,f,m⟩
  have h1:=rd1 an h1
  have h2:=rd1 an h2
  have ac:=rd2 an ac
  refine Ag (Ae ?_)
  refine Ab f Z λa f=>Ab f Z λa f=>AZ underlying33 f Z Z h1 λa f=>Aj f Z Z AP λa f=>Aa ?_
  rcases Af al with⟨ao,al⟩|⟨ao,al⟩
  ·refine Al f Z ao ?_
   refine An ?_
   refine Ag (Ak (Ag ?_))
   refine Bp 16 A7 (by kernel_rfl) m ?_
   refine AJ 0 16 Z f Z λa f=>AJ 1 16 Z f Z λa f=>AJ 2 16 Z f Z λa f=> ?_
   have⟨ap,aq,al⟩:=bind_some al
   refine B8 3 16 T33 h1 aq Z f Z Z λar au a av aw f=> ?_
   subst aw
   refine B6 4 16 Pl2 av Z f Z λa f=> ?_
   have⟨ax,ay,al⟩:=bind_some al
   refine B7 (i:=5) 16 Z (by kernel_rfl) Z f Z Z Z call64 (λ_ _ w az m=>Wk.e m (rd1 az h2) ay) λa f=>AJ 6 16 Z f Z λa f=> ?_
   have⟨aA,aB,al⟩:=bind_some al
   refine q_cut (fuel':=0) (listed':= #[true,true,true,true,true,true,true,true,true,true,true,true,true,true,true,true]) (λa=>Fr a 30 [(1,v1),(2,v2),(3,(pb ad)),(7,(iv ai)),(11,(.bool (decide (ai<(x1.length:Int))))),(14,v2),(15,v1),(16,(iv ai)),(17,ar),(18,(iv ap)),(19,(.bool ax)),(20,(.bool ax)),(29,(.bool aA))]) ?_ ?_
   ·intro a f
    refine Bd λaC w aD m=>Aa ?_
    rcases Af al with⟨aE,al⟩|⟨aE,al⟩
    ·refine Al f Z aE ?_
     refine Ae ?_
     refine Ac f Z λa f=>Aa ?_
     refine Ao ?_
     have m:Mem W aC w H:=Mem.drop (H':=[ib ad 26 [aa]]) m
     obtain rfl:=sj al
     obtain rfl:=am _ rfl
     obtain rfl:=sj hd
     exact⟨[(.bool true)],f.g Z,f.d,_,[],(gt an aD),m,Z,Z⟩
    ·refine Ai f Z aE ?_
     refine An ?_
     refine Ah ?_
     refine Ab f Z λa f=>Aj f Z Z Ay λa f=>Ac f Z λa f=>Aa ?_
     obtain rfl:=sj al
     exact⟨_,Z,_,Z,_,(gt an aD),f.k Z,m⟩
   ·intro aF
    rcases Af aB with⟨aG,aB⟩|⟨aG,aB⟩
    ·refine Bb 7 16 Z f aG λa f=> ?_
     refine Bb 8 16 Z f aG λa f=>Bb 9 16 Z f aG λa f=>Bb 10 16 Z f aG λa f=>Bb 11 16 Z f aG λa f=>Bb 12 16 Z f aG λa f=>Bb 13 16 Z f aG λa f=>Bb 14 16 Z f aG λa f=>q_p 15 16 Z f (λ_=>AW (f.e Z) aG (f.e Z)) λa f=> ?_
     obtain rfl:=sj aB
     exact aF _ (f.k Z)
    ·refine BX (i:=7) (ds:=[aa]) 16 0 AE Z Z Z Z (by kernel_rfl) Z f (Cr f Z Z Z aG) Z Z λa f=> ?_
     refine AJ (hw:=wo f aG) 8 16 Z f Z λa f=>AJ (hw:=wo f aG) 9 16 Z f Z λa f=>AJ (hw:=wo f aG) 10 16 Z f Z λa f=> ?_
     have⟨aH,aI,aB⟩:=bind_some aB
     refine B8 (hw:=wo f aG) 11 16 T33 h1 aI Z f Z Z λaJ aK a aL aM f=> ?_
     subst aM
     refine B6 (hw:=wo f aG) 12 16 Pl2 aL Z f Z λa f=> ?_
     have⟨aN,aO,aB⟩:=bind_some aB
     refine B7 (i:=13) 16 Z (by kernel_rfl) Z f (Cr f Z Z Z aG) Z Z call179 (λ_ _ w aP m=>Wk.c0 m (rd2 aP ac) (rd1 aP h2) aO) λa f=>q_p (hw:=wo f aG) 14 16 Z f (λ_=>Bm (f.e Z) (f.e Z) Cu) λa f=>q_p 15 16 Z f (λ_=>AX (f.e Z) aG (f.e Z)) λa f=> ?_
     obtain rfl:=sj aB
     exact aF _ (f.k Z)
  ·refine Ai f Z ao ?_
   refine AG Z ?_
   have m:Mem W aj w H:=Mem.drop (H':=[ib ad 26 [aa]]) m
   obtain rfl:=sj al
   obtain rfl:=am _ rfl
   exact⟨_,Z,_,an,f.weak trivial,m⟩
 ·rintro a w ⟨_,rfl,ag,aQ,f,m⟩
  refine Ae ?_
  refine Ac f Z λa f=>Aa ?_
  refine Ao ?_
  obtain rfl:=sj hd
  exact⟨[(.bool false)],f.g Z,f.d,_,[],aQ,m,Z,Z⟩
theorem Wk.V {W:World}(n:Nat):∀{w:World} {G:GH} {H:List Itm} {aa v1 v2:Value} {ab:LL} {x1:(List LL)} {x2:LL} (m:Mem W G w (H)) (ac:R2 G aa ab) (h1:RSl R2 G v1 x1) (h2:R2 G v2 x2) {y:(LL)} (hd:D.V n ab x1 x2=some y),
  Calls prog 250 #[(.agg #[aa]),v1,v2] w (Res W G H (λG' Ho v=>∃r0:Value,Ho=[]∧r0=v∧R2 G' r0 y)):=by
 induction n with
 |zero=>intros;rename_i hd;simp[D.V] at hd
 |succ fuel ih=>
  intro w G H aa v1 v2 ab x1 x2 m ac h1 h2 y hd
  refine Ap (args:=[(.agg #[aa]),v1,v2]) (N:=66) [.tmp 6] func250 Z Z (lb Z) Z λa f=> ?_
  unfold D.V at hd
  refine Ae ?_
  refine A8 (cs:=[aa]) m f Z Z Z λad w a m f=>Ac f Z λa f=>Az ?_
  refine Ab f Z λa f=>AZ underlying24 f Z Z h2 λa f=>Ac f Z λa f=>Aa (Ag (Ae ?_))
  refine Ab f Z λa f=>Ab f Z λa f=>AZ underlying245 f Z Z h1 λa f=>Aj f Z Z BW λa f=>Aa ?_
  rcases Af hd with⟨ae,hd⟩|⟨ae,hd⟩
  ·refine Al f Z ae ?_
   refine Ae ?_
   refine Ab f Z λa f=>Ac f Z λa f=>Aa ?_
   refine Ao ?_
   have m:Mem W G w H:=Mem.drop (H':=[ib ad 26 [aa]]) m
   obtain rfl:=sj hd
   exact⟨[v2],f.g Z,f.d,_,[],gr,m,_,Z,Z,h2⟩
  ·refine Ai f Z ae ?_
   refine An ?_
   refine Ag (Ae ?_)
   refine Ac f Z λa f=>Aa ?_
   have⟨af,ag,hd⟩:=bind_some hd
   refine AM (λa w=>∃q_398':Unit,af= .inl q_398'∧∃(ah:GH),GLe G ah∧Fr a 66 []∧Mem W ah w (H)) ?_ ?_
   ·refine Ak ?_
    refine AI (λai a w=>∃aj:Int,aj=ai∧∃(ak:GH),GLe G ak∧Fr a 66 [(1,v1),(2,v2),(3,(pb ad)),(7,(iv (x2.length:Int))),(8,(iv aj))]∧Mem W ak w (ib ad 26 [aa]::H)) ag ⟨_,Z,_,gr,f.k Z,m⟩ ?_
    clear ag f m
    rintro ai al am an a w ⟨aj,rfl,ak,ao,f,m⟩
    have h1:=RSl.mono (RSl.mono (RSl.mono (RI.mono _))) _ _ _ _ ao h1
    have h2:=rd2 ao h2
    have ac:=rd2 ao ac
    refine Ag (Ae ?_)
    refine Ab f Z λa f=>Ab f Z λa f=>Ab f Z λa f=> ?_
    have⟨ap,aq,am⟩:=bind_some am
    refine Be T245 f Z Z Z h1 aq λar au a av aw f=>AK m BH f Z Z av λa f=>AZ underlying24 f Z Z aw λa f=>Aj f Z Z AP λa f=>Aa ?_
    rcases Af am with⟨ax,am⟩|⟨ax,am⟩
    ·refine Al f Z ax ?_
     refine An ?_
     refine Ag (Ak (Ae ?_))
     refine Ab f Z λa f=>Ab f Z λa f=> ?_
     have⟨ay,az,am⟩:=bind_some am
     refine Be T245 f Z Z Z h1 az λaA aB a aC aD f=>AK m BH f Z Z aC λa f=>Ab f Z λa f=> ?_
     have⟨aE,aF,am⟩:=bind_some am
     refine Be T24 f Z Z Z aD aF λaG aH a aI aJ f=>AK m Br f Z Z aI λa f=>Ac f Z λa f=>Az ?_
     refine Ac f Z λa f=>Aa (Ag (Ae ?_))
     refine Ac f Z λa f=>Aa ?_
     have⟨aK,aL,am⟩:=bind_some am
     refine AM (λa w=>∃aM:Bool,aM=aK∧∃(aN:GH),GLe ak aN∧Fr a 66 [(1,v1),(2,v2),(3,(pb ad)),(7,(iv (x2.length:Int))),(8,(iv aj)),(9,aH),(10,(.bool aM))]∧Mem W aN w (ib ad 26 [aa]::H)) ?_ ?_
     ·refine Ak ?_
      refine AI (λaO a w=>∃aP:Bool,∃aQ:Int,(aP,aQ)=aO∧∃(aR:GH),GLe ak aR∧Fr a 66 [(1,v1),(2,v2),(3,(pb ad)),(7,(iv (x2.length:Int))),(8,(iv aj)),(9,aH),(10,(.bool aP)),(11,(iv aQ))]∧Mem W aR w (ib ad 26 [aa]::H)) aL ⟨_,_,Z,_,gr,f.k Z,m⟩ ?_
      clear aL f m
      rintro aO aS aT aU a w ⟨aP,aQ,rfl,aR,aV,f,m⟩
      have h2:=rd2 aV h2
      have aJ:=rd1 aV aJ
      have ac:=rd2 aV ac
      refine Ag (Ae ?_)
      refine Ab f Z λa f=>Ab f Z λa f=>Aj f Z Z AP λa f=>Ab f Z λa f=> ?_
      refine Bh 2 (λa w=>∃aW,GLe aR aW∧Mem W aW w (ib ad 26 [aa]::H)∧Fr a 66 [(1,v1),(2,v2),(3,(pb ad)),(7,(iv (x2.length:Int))),(8,(iv aj)),(9,aH),(10,(.bool aP)),(11,(iv aQ)),(36,(iv aQ)),(37,(iv (x2.length:Int))),(38,(.bool (decide (aQ<(x2.length:Int))))),(39,(.bool (decide (aQ<(x2.length:Int))))),(41,(.bool ((decide (aQ<(x2.length:Int)))&&aP)))]) ?_ ?_
      ·rcases Bool.eq_false_or_eq_true (decide (aQ<(x2.length:Int))) with aX|aX
       ·refine As f aX ?_
        refine Ab f Z λa f=>l_o f (AW (f.e Z) aX (f.e Z)) λa f=> ?_
        exact⟨_,gr,m,f.weak ⟨Z,Z,Z,Z,Z,Z,Z,Z,Z,Z,Z,Z,by rw[aX];rfl,trivial⟩⟩
       ·refine Au f aX λa f=> ?_
        refine l_o f (AX (f.e Z) aX (f.e Z)) λa f=> ?_
        exact⟨_,gr,m,f.weak ⟨Z,Z,Z,Z,Z,Z,Z,Z,Z,Z,Z,Z,by rw[aX];rfl,trivial⟩⟩
      ·rintro a w ⟨aW,aY,m,f⟩
       have h2:=rd2 aY h2
       have aJ:=rd1 aY aJ
       have ac:=rd2 aY ac
       refine Aa ?_
       rcases Af aT with⟨aZ,aT⟩|⟨aZ,aT⟩
       ·refine Al f Z aZ ?_
        refine An ?_
        refine Ag (Ak ?_)
        refine Bp 8 A7 (by kernel_rfl) m ?_
        refine BX (i:=0) (ds:=[aa]) 8 0 AE Z Z Z Z (by kernel_rfl) Z f Z Z Z λa f=>AJ 1 8 Z f Z λa f=>AJ 2 8 Z f Z λa f=> ?_
        have⟨a0,a1,aT⟩:=bind_some aT
        refine B8 3 8 T24 h2 a1 Z f Z Z λa2 a3 a a4 a5 f=>B6 4 8 Br a4 Z f Z λa f=>AJ 5 8 Z f Z λa f=> ?_
        have⟨a6,a7,aT⟩:=bind_some aT
        refine B7 (i:=6) 8 Z (by kernel_rfl) Z f Z Z Z call60 (λ_ _ w a8 m=>Wk.X m (rd2 a8 ac) (rd1 a8 a5) (rd1 a8 aJ) a7) λa f=>q_p 7 8 Z f (λ_=>A6 (f.e Z)) λa f=>Bd λa9 w ba m=>Aa (Ah ?_)
        refine Ab f Z λa f=>Aj f Z Z Ay λa f=>Ac f Z λa f=>Aa ?_
        obtain rfl:=sj aT
        exact⟨_,Z,_,_,Z,_,(gt aV (gt aY ba)),f.k Z,m⟩
       ·refine Ai f Z aZ ?_
        refine AG Z ?_
        obtain rfl:=sj aT
        obtain rfl:=aU _ rfl
        exact⟨_,Z,_,(gt aV aY),f.k Z,m⟩
     ·rintro a w ⟨aM,rfl,aN,bb,f,m⟩
      have h1:=RSl.mono (RSl.mono (RSl.mono (RI.mono _))) _ _ _ _ bb h1
      have h2:=rd2 bb h2
      have aJ:=rd1 bb aJ
      have ac:=rd2 bb ac
      refine Ae ?_
      refine Ab f Z λa f=>Aa ?_
      rcases Af am with⟨bc,am⟩|⟨bc,am⟩
      ·refine Al f Z bc ?_
       refine Ag ?_
       have⟨bd,be,am⟩:=bind_some am
       refine AM (λa w=>∃bf:LL,bf=bd∧∃(bg:GH) (bh:Value),GLe aN bg∧Fr a 66 [(1,v1),(2,v2),(3,(pb ad)),(7,(iv (x2.length:Int))),(8,(iv aj)),(12,bh)]∧Mem W bg w (ib ad 26 [aa]::H)∧R2 bg bh bf) ?_ ?_
       ·refine Bp 8 A7 (by kernel_rfl) m ?_
        refine BX (i:=0) (ds:=[aa]) 8 0 AE Z Z Z Z (by kernel_rfl) Z f Z Z Z λa f=>AJ 1 8 Z f Z λa f=>AJ 3 8 Z f Z λa f=>AJ 5 8 Z f Z λa f=>Eb (i:=2) (j:=6) (l1:= #[true,true,true,true,false,true,false,false,false,false]) (l2:= #[true,true,false,true,false,true,true,false,false,false]) Z Z (by kernel_rfl) Z Z ?_ ?_
        ·intro bi w bj m bk bk
         have h1:=RSl.mono (RSl.mono (RSl.mono (RI.mono _))) _ _ _ _ bj h1
         have h2:=rd2 bj h2
         have aJ:=rd1 bj aJ
         have ac:=rd2 bj ac
         refine AF (R:=R1) (xs:=([]:LL)) (RSl.one _) m T24 f Z Z Z (by decide) (All2.nil _) λbl bm w a m bn f=>Aa ?_
         refine bk bi [bl] _ _ gr m ?_
         refine Eb (i:=4) (j:=6) (l1:= #[true,true,true,true,true,true,false,false,false,false]) (l2:= #[true,true,true,true,false,true,true,false,false,false]) Z Z (by kernel_rfl) Z Z ?_ ?_
         ·intro bo w bp m bq bq
          have h1:=RSl.mono (RSl.mono (RSl.mono (RI.mono _))) _ _ _ _ bp h1
          have h2:=rd2 bp h2
          have aJ:=rd1 bp aJ
          have ac:=rd2 bp ac
          have bn:=Ow.mono (RSl.mono (RI.mono _)) bp bn
          have⟨br,bs,be⟩:=bind_some be
          refine AT (RSl.one _) 0 m bn Z T24 Z (by decide) f Z Z Z (h2.src m) bs λbt bu w a m bv f=>Aa ?_
          refine bq bo [bt] _ _ gr m ?_
          refine Bs 6 Z λbw w bx m bz bz=> ?_
          have h1:=RSl.mono (RSl.mono (RSl.mono (RI.mono _))) _ _ _ _ bx h1
          have aJ:=rd1 bx aJ
          have ac:=rd2 bx ac
          have bv:=Ow.mono (RSl.mono (RI.mono _)) bx bv
          refine AF (R:=R1) (xs:=([aE]:LL)) (RSl.one _) m T24 f Z Z Z (by decide) (All2.cons aJ (All2.nil _)) λbA bB w a m bC f=>Aa ?_
          refine bz bw [bA,bt] _ _ gr m ?_
          refine Bs 7 Z λbD w bE m bF bF=> ?_
          have h1:=RSl.mono (RSl.mono (RSl.mono (RI.mono _))) _ _ _ _ bE h1
          have ac:=rd2 bE ac
          have bC:=Ow.mono (RSl.mono (RI.mono _)) bE bC
          have bv:=Ow.mono (RSl.mono (RI.mono _)) bE bv
          have⟨bG,bH,be⟩:=bind_some be
          refine AT (RSl.one _) 1 m bv Z T24 Z (by decide) f Z Z Z (Ow.src (j:=0) bC m Z) bH λbI bJ w a m bK f=>Aa ?_
          refine bF bD [bA,bI] _ _ gr m ?_
          refine Bd λbL w bM m=> ?_
          have h1:=RSl.mono (RSl.mono (RSl.mono (RI.mono _))) _ _ _ _ bM h1
          have ac:=rd2 bM ac
          have bK:=Ow.mono (RSl.mono (RI.mono _)) bM bK
          have m:=m.fr 1
          obtain⟨bN,bO,m,bP⟩:=Ow.stamp (RSl.mono (RI.mono _)) bK m
          have h1:=RSl.mono (RSl.mono (RSl.mono (RI.mono _))) _ _ _ _ bO h1
          have ac:=rd2 bO ac
          have⟨bQ,bR,be⟩:=bind_some be
          refine AA f Z call250 (ih m ac h1 bP bR) λbS bT bU w bV m bW a f=> ?_
          obtain⟨bX,rfl,rfl,bY⟩:=bW
          refine Ac f Z λa f=>Aa ?_
          have m:=m.fr 1
          have m:=m.eraseAt 1
          obtain rfl:=sj be
          exact⟨_,Z,_,bX,(gt bj (gt bp (gt bx (gt bE (gt bM (gt bO bV)))))),f.k Z,m,bY⟩
         ·intro bw w bx m bz bz
          have⟨br,bs,be⟩:=bind_some be
          have⟨bG,bH,be⟩:=bind_some be
          have⟨bQ,bR,be⟩:=bind_some be
          have h1:=RSl.mono (RSl.mono (RSl.mono (RI.mono _))) _ _ _ _ bx h1
          have h2:=rd2 bx h2
          have aJ:=rd1 bx aJ
          have ac:=rd2 bx ac
          have bn:=Ow.mono (RSl.mono (RI.mono _)) bx bn
          refine AF (R:=R1) (xs:=([aE]:LL)) (RSl.one _) m T24 f Z Z Z (by decide) (All2.cons aJ (All2.nil _)) λbA bB w a m bC f=>Aa ?_
          refine bz bw [bA,bl] _ _ gr m ?_
          refine Bs 4 Z λbo w bp m bq bq=> ?_
          have h1:=RSl.mono (RSl.mono (RSl.mono (RI.mono _))) _ _ _ _ bp h1
          have h2:=rd2 bp h2
          have ac:=rd2 bp ac
          have bC:=Ow.mono (RSl.mono (RI.mono _)) bp bC
          have bn:=Ow.mono (RSl.mono (RI.mono _)) bp bn
          refine AT (RSl.one _) 1 m bn Z T24 Z (by decide) f Z Z Z (h2.src m) bs λbt bu w a m bv f=>Aa ?_
          refine bq bo [bA,bt] _ _ gr m ?_
          refine Bs 7 Z λbD w bE m bF bF=> ?_
          have h1:=RSl.mono (RSl.mono (RSl.mono (RI.mono _))) _ _ _ _ bE h1
          have ac:=rd2 bE ac
          have bC:=Ow.mono (RSl.mono (RI.mono _)) bE bC
          have bv:=Ow.mono (RSl.mono (RI.mono _)) bE bv
          refine AT (RSl.one _) 1 m bv Z T24 Z (by decide) f Z Z Z (Ow.src (j:=0) bC m Z) bH λbI bJ w a m bK f=>Aa ?_
          refine bF bD [bA,bI] _ _ gr m ?_
          refine Bd λbL w bM m=> ?_
          have h1:=RSl.mono (RSl.mono (RSl.mono (RI.mono _))) _ _ _ _ bM h1
          have ac:=rd2 bM ac
          have bK:=Ow.mono (RSl.mono (RI.mono _)) bM bK
          have m:=m.fr 1
          obtain⟨bN,bO,m,bP⟩:=Ow.stamp (RSl.mono (RI.mono _)) bK m
          have h1:=RSl.mono (RSl.mono (RSl.mono (RI.mono _))) _ _ _ _ bO h1
          have ac:=rd2 bO ac
          refine AA f Z call250 (ih m ac h1 bP bR) λbS bT bU w bV m bW a f=> ?_
          obtain⟨bX,rfl,rfl,bY⟩:=bW
          refine Ac f Z λa f=>Aa ?_
          have m:=m.fr 1
          have m:=m.eraseAt 1
          obtain rfl:=sj be
          exact⟨_,Z,_,bX,(gt bj (gt bx (gt bp (gt bE (gt bM (gt bO bV)))))),f.k Z,m,bY⟩
        ·intro bw w bx m bz bz
         have⟨br,bs,be⟩:=bind_some be
         have⟨bG,bH,be⟩:=bind_some be
         have⟨bQ,bR,be⟩:=bind_some be
         have h1:=RSl.mono (RSl.mono (RSl.mono (RI.mono _))) _ _ _ _ bx h1
         have h2:=rd2 bx h2
         have aJ:=rd1 bx aJ
         have ac:=rd2 bx ac
         refine AF (R:=R1) (xs:=([aE]:LL)) (RSl.one _) m T24 f Z Z Z (by decide) (All2.cons aJ (All2.nil _)) λbA bB w a m bC f=>Aa ?_
         refine bz bw [bA] _ _ gr m ?_
         refine Bs 2 Z λbi w bj m bk bk=> ?_
         have h1:=RSl.mono (RSl.mono (RSl.mono (RI.mono _))) _ _ _ _ bj h1
         have h2:=rd2 bj h2
         have ac:=rd2 bj ac
         have bC:=Ow.mono (RSl.mono (RI.mono _)) bj bC
         refine AF (R:=R1) (xs:=([]:LL)) (RSl.one _) m T24 f Z Z Z (by decide) (All2.nil _) λbl bm w a m bn f=>Aa ?_
         refine bk bi [bl,bA] _ _ gr m ?_
         refine Bs 4 Z λbo w bp m bq bq=> ?_
         have h1:=RSl.mono (RSl.mono (RSl.mono (RI.mono _))) _ _ _ _ bp h1
         have h2:=rd2 bp h2
         have ac:=rd2 bp ac
         have bn:=Ow.mono (RSl.mono (RI.mono _)) bp bn
         have bC:=Ow.mono (RSl.mono (RI.mono _)) bp bC
         refine AT (RSl.one _) 0 m bn Z T24 Z (by decide) f Z Z Z (h2.src m) bs λbt bu w a m bv f=>Aa ?_
         refine bq bo [bt,bA] _ _ gr m ?_
         refine Bs 7 Z λbD w bE m bF bF=> ?_
         have h1:=RSl.mono (RSl.mono (RSl.mono (RI.mono _))) _ _ _ _ bE h1
         have ac:=rd2 bE ac
         have bv:=Ow.mono (RSl.mono (RI.mono _)) bE bv
         have bC:=Ow.mono (RSl.mono (RI.mono _)) bE bC
         refine AT (RSl.one _) 0 m bv Z T24 Z (by decide) f Z Z Z (Ow.src (j:=1) bC m Z) bH λbI bJ w a m bK f=>Aa ?_
         refine bF bD [bI,bA] _ _ gr m ?_
         refine Bd λbL w bM m=> ?_
         have h1:=RSl.mono (RSl.mono (RSl.mono (RI.mono _))) _ _ _ _ bM h1
         have ac:=rd2 bM ac
         have bK:=Ow.mono (RSl.mono (RI.mono _)) bM bK
         obtain⟨bN,bO,m,bP⟩:=Ow.stamp (RSl.mono (RI.mono _)) bK m
         have h1:=RSl.mono (RSl.mono (RSl.mono (RI.mono _))) _ _ _ _ bO h1
         have ac:=rd2 bO ac
         refine AA f Z call250 (ih m ac h1 bP bR) λbS bT bU w bV m bW a f=> ?_
         obtain⟨bX,rfl,rfl,bY⟩:=bW
         refine Ac f Z λa f=>Aa ?_
         have m:=m.fr 1
         have m:=m.eraseAt 1
         obtain rfl:=sj be
         exact⟨_,Z,_,bX,(gt bx (gt bj (gt bp (gt bE (gt bM (gt bO bV)))))),f.k Z,m,bY⟩
       ·rintro a w ⟨bf,rfl,bg,bh,bZ,f,m,b0⟩
        refine Ae ?_
        refine Ab f Z λa f=>AZ underlying24 f Z Z b0 λa f=>Aj f Z Z Cu λa f=>Aa ?_
        rcases Af am with⟨b1,am⟩|⟨b1,am⟩
        ·refine Al f Z b1 ?_
         refine Ae ?_
         refine Ab f Z λa f=>Ac f Z λa f=>Aa ?_
         refine Ao ?_
         have m:Mem W bg w H:=Mem.drop (H':=[ib ad 26 [aa]]) m
         obtain rfl:=sj am
         obtain rfl:=an _ rfl
         obtain rfl:=sj hd
         exact⟨[bh],f.g Z,f.d,_,[],(gt ao (gt bb bZ)),m,_,Z,Z,b0⟩
        ·refine Ai f Z b1 ?_
         refine An ?_
         refine Ah ?_
         refine Ab f Z λa f=>Aj f Z Z Ay λa f=>Ac f Z λa f=>Aa ?_
         obtain rfl:=sj am
         exact⟨_,Z,_,Z,_,(gt ao (gt bb bZ)),f.k Z,m⟩
      ·refine Ai f Z bc ?_
       refine An ?_
       refine Ah ?_
       refine Ab f Z λa f=>Aj f Z Z Ay λa f=>Ac f Z λa f=>Aa ?_
       obtain rfl:=sj am
       exact⟨_,Z,_,Z,_,(gt ao bb),f.k Z,m⟩
    ·refine Ai f Z ax ?_
     refine AG Z ?_
     have m:Mem W ak w H:=Mem.drop (H':=[ib ad 26 [aa]]) m
     obtain rfl:=sj am
     obtain rfl:=an _ rfl
     exact⟨_,Z,_,ao,f.weak trivial,m⟩
   ·rintro a w ⟨_,rfl,ah,b2,f,m⟩
    refine Ae ?_
    refine AF (R:=R1) (xs:=([]:LL)) (RSl.one _) m T24 f Z Z Z (by decide) (All2.nil _) λb3 b4 w a m b5 f=>Ac f Z λa f=>Aa ?_
    refine Ao ?_
    obtain⟨b6,b7,m,b8⟩:=Ow.stamp (RSl.mono (RI.mono _)) b5 m
    obtain rfl:=sj hd
    exact⟨[b4],f.g Z,f.d,_,[],(gt b2 b7),m,_,Z,Z,b8⟩
theorem Wk.s {aa v1 v2:Value}{ab:LL}{x1:(List LL)}{x2:LL}(m:Mem W G w (H))(ac:R2 G aa ab)(h1:RSl R2 G v1 x1)(h2:R2 G v2 x2){y:(LL)}(hd:D.s ab x1 x2=some y):
  Calls prog 250 #[(.agg #[aa]),v1,v2] w (Res W G H (λG' Ho v=>∃r0:Value,Ho=[]∧r0=v∧R2 G' r0 y)):=by
 exact Wk.V Bo m ac h1 h2 hd
theorem Wk.q0 {v0 v1:Value}{x0 x1:LI}(m:Mem W G w (H))(h0:R1 G v0 x0)(h1:R1 G v1 x1){y:Bool}(hd:D.q0 x0 x1=some y):
  Calls prog 207 #[v0,v1] w (Res W G H (λ_ Ho v=>Ho=[]∧v=(.bool y))):=by
 refine Ap (args:=[v0,v1]) (N:=26) [.tmp 4] func207 Z Z (lb Z) Z λa f=> ?_
 unfold D.q0 at hd
 refine Ae ?_
 refine Ac f Z λa f=>Aa (Ag (Ae ?_))
 refine Ab f Z λa f=>AZ underlying33 f Z Z h0 λa f=>Ab f Z λa f=>AZ underlying33 f Z Z h1 λa f=>Aj f Z Z Dx λa f=>Aa ?_
 rcases Af hd with⟨aa,hd⟩|⟨aa,hd⟩
 ·refine Al f Z aa ?_
  refine Ae ?_
  refine Ac f Z λa f=>Aa ?_
  refine Ao ?_
  obtain rfl:=sj hd
  exact⟨[(.bool false)],f.g Z,f.d,_,[],gr,m,Z,Z⟩
 ·refine Ai f Z aa ?_
  refine An ?_
  refine Ag (Ae ?_)
  refine Ac f Z λa f=>Aa ?_
  have⟨ab,ac,hd⟩:=bind_some hd
  refine AM (λa w=>∃q_36':Unit,ab= .inl q_36'∧∃(ad:GH),GLe G ad∧Fr a 26 []∧Mem W ad w (H)) ?_ ?_
  ·refine Ak ?_
   refine AI (λae a w=>∃af:Int,af=ae∧∃(ag:GH),GLe G ag∧Fr a 26 [(0,v0),(1,v1),(5,(iv af))]∧Mem W ag w (H)) ac ⟨_,Z,_,gr,f.k Z,m⟩ ?_
   clear ac f m
   rintro ae ah ai aj a w ⟨af,rfl,ag,ak,f,m⟩
   have h0:=rd1 ak h0
   have h1:=rd1 ak h1
   refine Ag (Ae ?_)
   refine Ab f Z λa f=>Ab f Z λa f=>AZ underlying33 f Z Z h0 λa f=>Aj f Z Z AP λa f=>Aa ?_
   rcases Af ai with⟨al,ai⟩|⟨al,ai⟩
   ·refine Al f Z al ?_
    refine An ?_
    refine Ag (Ak (Ag ?_))
    refine Bp 9 A7 (by kernel_rfl) m ?_
    refine AJ 0 9 Z f Z λa f=>AJ 1 9 Z f Z λa f=> ?_
    have⟨am,an,ai⟩:=bind_some ai
    refine B8 2 9 T33 h0 an Z f Z Z λao ap a aq ar f=> ?_
    subst ar
    refine B6 3 9 Pl2 aq Z f Z λa f=>AJ 4 9 Z f Z λa f=>AJ 5 9 Z f Z λa f=> ?_
    have⟨au,av,ai⟩:=bind_some ai
    refine B8 6 9 T33 h1 av Z f Z Z λaw ax a ay az f=> ?_
    subst az
    refine B6 7 9 Pl2 ay Z f Z λa f=>q_p 8 9 Z f (λ_=>Bm (f.e Z) (f.e Z) Dx) λa f=>Bd λaA w aB m=>Aa ?_
    rcases Af ai with⟨aC,ai⟩|⟨aC,ai⟩
    ·refine Al f Z aC ?_
     refine Ae ?_
     refine Ac f Z λa f=>Aa ?_
     refine Ao ?_
     obtain rfl:=sj ai
     obtain rfl:=aj _ rfl
     obtain rfl:=sj hd
     exact⟨[(.bool false)],f.g Z,f.d,_,[],(gt ak aB),m,Z,Z⟩
    ·refine Ai f Z aC ?_
     refine An ?_
     refine Ah ?_
     refine Ab f Z λa f=>Aj f Z Z Ay λa f=>Ac f Z λa f=>Aa ?_
     obtain rfl:=sj ai
     exact⟨_,Z,_,Z,_,(gt ak aB),f.k Z,m⟩
   ·refine Ai f Z al ?_
    refine AG Z ?_
    obtain rfl:=sj ai
    obtain rfl:=aj _ rfl
    exact⟨_,Z,_,ak,f.weak trivial,m⟩
  ·rintro a w ⟨_,rfl,ad,aD,f,m⟩
   refine Ae ?_
   refine Ac f Z λa f=>Aa ?_
   refine Ao ?_
   obtain rfl:=sj hd
   exact⟨[(.bool true)],f.g Z,f.d,_,[],aD,m,Z,Z⟩
theorem Wk.O0 {aa:Value}{ab:LL}(m:Mem W G w (H))(ac:R2 G aa ab){y:(LL)}(hd:D.O0 ab=some y):
  Calls prog 171 #[(.agg #[aa])] w (Res W G H (λG' Ho v=>∃r0:Value,∃i0:Itm,Ho=[i0]∧r0=v∧Ow R1 33 G' i0 r0 y)):=by
 refine Ap (args:=[(.agg #[aa])]) (N:=94) [.tmp 2] func171 Z Z (lb Z) Z λa f=> ?_
 unfold D.O0 at hd
 refine Ae ?_
 refine A8 (cs:=[aa]) m f Z Z Z λad w a m f=>Ac f Z λa f=>Az ?_
 refine AF (R:=R1) (xs:=([]:LL)) (RSl.one _) m T24 f Z Z Z (by decide) (All2.nil _) λae af w a m ag f=>Ac f Z λa f=>Aa (Ag (Ae ?_))
 refine Aw 1 0 (ds:=[aa]) m AE f Z Z Z Z Z λa f=> ?_
 have⟨ah,ai,hd⟩:=bind_some hd
 refine AR f Z call247 (Wk.c1 m ac ai) λaj w ak m a f=> ?_
 have ac:=rd2 ak ac
 have ag:=Ow.mono (RSl.mono (RI.mono _)) ak ag
 refine l_o f (Bc (f.e Z)) λa f=>Aa ?_
 rcases Af hd with⟨al,hd⟩|⟨al,hd⟩
 ·refine Al f Z al ?_
  refine Ae ?_
  refine Ab f Z λa f=>Ac f Z λa f=>Aa ?_
  refine Ao ?_
  have m:=m.eraseAt 1
  obtain rfl:=sj hd
  exact⟨[af],f.g Z,f.d,_,[ae],ak,m,_,_,Z,Z,ag⟩
 ·refine Ai f Z al ?_
  refine An ?_
  refine Ae ?_
  refine Aw 1 0 (ds:=[aa]) m AE f Z Z Z Z Z λa f=> ?_
  have⟨am,an,hd⟩:=bind_some hd
  refine AR f Z call61 (Wk.b m ac an) λao w ap m a f=> ?_
  have ac:=rd2 ap ac
  have ag:=Ow.mono (RSl.mono (RI.mono _)) ap ag
  refine Ac f Z λa f=>Az ?_
  refine Ab f Z λa f=>Aw 1 0 (ds:=[aa]) m AE f Z Z Z Z Z λa f=> ?_
  have⟨aq,ar,hd⟩:=bind_some hd
  refine AR f Z call12 (Wk.o0 m ac ar) λau w av m a f=> ?_
  have ac:=rd2 av ac
  have ag:=Ow.mono (RSl.mono (RI.mono _)) av ag
  have⟨aw,ax,hd⟩:=bind_some hd
  refine AA f Z call248 (Wk.a1 m ax) λay az aA w aB m aC a f=> ?_
  obtain⟨aD,aE,rfl,rfl,aF⟩:=aC
  have ac:=rd2 aB ac
  have ag:=Ow.mono (RSl.mono (RI.mono _)) aB ag
  refine Ac f Z λa f=>Az ?_
  refine AF (R:=R2) (xs:=([]:List LL)) (RSl.one _) m T245 f Z Z Z (by decide) (All2.nil _) λaG aH w a m aI f=>Ac f Z λa f=>Aa (Ag (Ae ?_))
  refine Ac f Z λa f=>Aa ?_
  have⟨aJ,aK,hd⟩:=bind_some hd
  refine AM (λa w=>∃aL:List LL,aL=aJ∧∃(aM:GH) (aN:Value) (aO:Itm),GLe az aM∧Fr a 94 [(1,(pb ad)),(3,af),(6,aN)]∧Mem W aM w (ib ad 26 [aa]::ae::aO::H)∧Ow R2 24 aM aO aN aL) ?_ ?_
  ·refine Ak ?_
   have m:=m.fr 1
   have m:=m.fr 2
   have m:=m.fr 3
   refine AI (λaP a w=>∃aQ:List LL,∃aR:Int,(aQ,aR)=aP∧∃(aS:GH) (aT:Value) (aU:Itm),GLe az aS∧Fr a 94 [(1,(pb ad)),(3,af),(4,(iv am)),(5,aD),(6,aT),(7,(iv aR))]∧Mem W aS w (ib ad 26 [aa]::ae::aE::aU::H)∧Ow R2 24 aS aU aT aQ) aK ⟨_,_,Z,_,aH,aG,gr,f.k Z,m,aI⟩ ?_
   clear aK f m
   rintro aP aV aW aX a w ⟨aQ,aR,rfl,aS,aT,aU,aY,f,m,aZ⟩
   have ac:=rd2 aY ac
   have aF:=Ow.mono (RSl.mono (RI.mono _)) aY aF
   refine Ag (Ae ?_)
   refine Ab f Z λa f=>Ab f Z λa f=>Bz 2 m aF Z underlying24 f Z Z λa f=>Aj f Z Z AP λa f=>Aa ?_
   rcases Af aW with⟨a0,aW⟩|⟨a0,aW⟩
   ·refine Al f Z a0 ?_
    refine An ?_
    refine Ag (Ak (Ae ?_))
    refine AF (R:=R0) (xs:=([]:LI)) (RI.one _) m T33 f Z Z Z (by decide) (All2.nil _) λa1 a2 w a m a3 f=>Ac f Z λa f=>Aa (Ag (Ae ?_))
    refine Ac f Z λa f=>Aa ?_
    have⟨a4,a5,aW⟩:=bind_some aW
    refine AM (λa w=>∃a6:LI,a6=a4∧∃(a7:GH) (a8:Value) (a9:Itm),GLe aS a7∧Fr a 94 [(1,(pb ad)),(3,af),(4,(iv am)),(5,aD),(6,aT),(7,(iv aR)),(8,a8)]∧Mem W a7 w (ib ad 26 [aa]::ae::aE::aU::a9::H)∧Ow R0 2 a7 a9 a8 a6) ?_ ?_
    ·refine Ak ?_
     have m:=m.fr 4
     have m:=m.fr 4
     have m:Mem W aS w (ae::aE::aU::a1::ib ad 26 [aa]::H):=m.fr 4
     have m:=m.fr 4
     refine AI (λba a w=>∃bb:LI,∃bc:Int,(bb,bc)=ba∧∃(bd:GH) (be:Value) (bf:Itm),GLe aS bd∧Fr a 94 [(1,(pb ad)),(3,af),(4,(iv am)),(5,aD),(6,aT),(7,(iv aR)),(8,be),(9,(iv bc))]∧Mem W bd w (ib ad 26 [aa]::ae::aE::aU::bf::H)∧Ow R0 2 bd bf be bb) a5 ⟨_,_,Z,_,a2,a1,gr,f.k Z,m,a3⟩ ?_
     clear a5 f m
     rintro ba bg bh bi a w ⟨bb,bc,rfl,bd,be,bf,bj,f,m,bk⟩
     have aF:=Ow.mono (RSl.mono (RI.mono _)) bj aF
     refine Ag (Ae ?_)
     refine Ab f Z λa f=>Ab f Z λa f=>Aj f Z Z AP λa f=>Aa ?_
     rcases Af bh with⟨bl,bh⟩|⟨bl,bh⟩
     ·refine Al f Z bl ?_
      refine An ?_
      refine Ag (Ak (Ae ?_))
      refine Ab f Z λa f=>Ab f Z λa f=> ?_
      have⟨bm,bn,bh⟩:=bind_some bh
      refine Bj 2 m aF Z T24 f Z Z Z bn λbo a bp f=>Bl 2 m aF Z Br f Z Z bp bn λbq a br f=>Ab f Z λa f=> ?_
      have⟨bs,bt,bh⟩:=bind_some bh
      refine AR f Z call64 (Wk.e m br bt) λbu w bv m a f=> ?_
      have bk:=od1 bv bk
      refine l_o f (Bc (f.e Z)) λa f=>Aa ?_
      rcases Af bh with⟨bw,bh⟩|⟨bw,bh⟩
      ·refine Al f Z bw ?_
       refine Ah ?_
       refine Ab f Z λa f=>Ab f Z λa f=>AF (R:=R0) (xs:=([bc]:LI)) (RI.one _) m T33 f Z Z Z (by decide) (All2.cons Z (All2.nil _)) λbx bz w a m bA f=> ?_
       have⟨bB,bC,bh⟩:=bind_some bh
       refine AT (RI.one _) 5 m bk Z T33 Z (by decide) f Z Z Z (Ow.src (j:=0) bA m Z) bC λbD bE w a m bF f=>Ac f Z λa f=>Aa (Ah ?_)
       refine Ab f Z λa f=>Aj f Z Z Ay λa f=>Ac f Z λa f=>Aa ?_
       have m:=m.fr 5
       have m:=m.fr 5
       have m:Mem W bu w (aE::aU::bD::bx::ib ad 26 [aa]::ae::H):=m.fr 5
       have m:=m.fr 5
       have m:=m.fr 5
       have m:=m.eraseAt 5
       obtain rfl:=sj bh
       exact⟨_,Z,_,_,Z,_,bE,bD,(gt bj bv),f.k Z,m,bF⟩
      ·refine Ai f Z bw ?_
       refine An ?_
       refine Ah ?_
       refine Ab f Z λa f=>Aj f Z Z Ay λa f=>Ac f Z λa f=>Aa ?_
       obtain rfl:=sj bh
       exact⟨_,Z,_,_,Z,_,be,bf,(gt bj bv),f.k Z,m,bk⟩
     ·refine Ai f Z bl ?_
      refine AG Z ?_
      obtain rfl:=sj bh
      obtain rfl:=bi _ rfl
      exact⟨_,Z,_,be,bf,bj,f.k Z,m,bk⟩
    ·rintro a w ⟨a6,rfl,a7,a8,a9,bG,f,m,bH⟩
     have ac:=rd2 bG ac
     have aZ:=Ow.mono (RSl.mono (RSl.mono (RI.mono _))) bG aZ
     refine Ah ?_
     refine Ab f Z λa f=>Aw 0 0 (ds:=[aa]) m AE f Z Z Z Z Z λa f=>Ab f Z λa f=> ?_
     have m:=m.fr 4
     obtain⟨bI,bJ,m,bK⟩:=Ow.stamp (RI.mono _) bH m
     have ac:=rd2 bJ ac
     have aZ:=Ow.mono (RSl.mono (RSl.mono (RI.mono _))) bJ aZ
     have⟨bL,bM,aW⟩:=bind_some aW
     refine AA f Z call249 (Wk.w0 m ac bK bM) λbN bO bP w bQ m bR a f=> ?_
     obtain⟨bS,bT,rfl,rfl,bU⟩:=bR
     have aZ:=Ow.mono (RSl.mono (RSl.mono (RI.mono _))) bQ aZ
     obtain⟨bV,bW,m,bX⟩:=Ow.stamp (RSl.mono (RI.mono _)) bU m
     have aZ:=Ow.mono (RSl.mono (RSl.mono (RI.mono _))) bW aZ
     refine AF (R:=R2) (xs:=([bL]:List LL)) (RSl.one _) m T245 f Z Z Z (by decide) (All2.cons bX (All2.nil _)) λbY bZ w a m b0 f=> ?_
     have⟨b1,b2,aW⟩:=bind_some aW
     refine AT (RSl.one _) 4 m aZ Z T245 Z (by decide) f Z Z Z (Ow.src (j:=0) b0 m Z) b2 λb3 b4 w a m b5 f=>Ac f Z λa f=>Aa (Ah ?_)
     refine Ab f Z λa f=>Aj f Z Z Ay λa f=>Ac f Z λa f=>Aa ?_
     have m:=m.fr 4
     have m:=m.fr 4
     have m:Mem W bV w (ae::aE::b3::bY::ib ad 26 [aa]::H):=m.fr 4
     have m:=m.fr 4
     have m:=m.eraseAt 4
     obtain rfl:=sj aW
     exact⟨_,Z,_,_,Z,_,b4,b3,(gt aY (gt bG (gt bJ (gt bQ bW)))),f.k Z,m,b5⟩
   ·refine Ai f Z a0 ?_
    refine AG Z ?_
    have m:=m.fr 3
    have m:=m.fr 2
    have m:Mem W aS w (ib ad 26 [aa]::ae::aU::aE::H):=m.fr 2
    have m:=m.eraseAt 3
    obtain rfl:=sj aW
    obtain rfl:=aX _ rfl
    exact⟨_,Z,_,aT,aU,aY,f.k Z,m,aZ⟩
  ·rintro a w ⟨aL,rfl,aM,aN,aO,b6,f,m,b7⟩
   have ac:=rd2 b6 ac
   have ag:=Ow.mono (RSl.mono (RI.mono _)) b6 ag
   refine Ae ?_
   refine Aw 0 0 (ds:=[aa]) m AE f Z Z Z Z Z λa f=>Ab f Z λa f=>AF (R:=R1) (xs:=([]:LL)) (RSl.one _) m T24 f Z Z Z (by decide) (All2.nil _) λb8 b9 w a m ca f=> ?_
   have m:=m.fr 3
   obtain⟨cb,cc,m,cd⟩:=Ow.stamp (RSl.mono (RSl.mono (RI.mono _))) b7 m
   have ac:=rd2 cc ac
   have ca:=Ow.mono (RSl.mono (RI.mono _)) cc ca
   have ag:=Ow.mono (RSl.mono (RI.mono _)) cc ag
   obtain⟨ce,cf,m,cg⟩:=Ow.stamp (RSl.mono (RI.mono _)) ca m
   have cd:=RSl.mono (RSl.mono (RSl.mono (RI.mono _))) _ _ _ _ cf cd
   have ac:=rd2 cf ac
   have ag:=Ow.mono (RSl.mono (RI.mono _)) cf ag
   have⟨ch,ci,hd⟩:=bind_some hd
   refine AA f Z call250 (Wk.s m ac cd cg ci) λcj ck cl w cm m cn a f=> ?_
   obtain⟨co,rfl,rfl,cp⟩:=cn
   have ag:=Ow.mono (RSl.mono (RI.mono _)) cm ag
   refine Ac f Z λa f=>Aa (Ag (Ae ?_))
   refine Ac f Z λa f=>Aa ?_
   have⟨cq,cr,hd⟩:=bind_some hd
   refine AM (λa w=>∃ct:LL,ct=cq∧∃(cu:GH) (cv:Value) (cw:Itm),GLe ck cu∧Fr a 94 [(3,cv)]∧Mem W cu w (cw::H)∧Ow R1 33 cu cw cv ct) ?_ ?_
   ·refine Ak ?_
    have m:=m.fr 1
    have m:=m.eraseAt 1
    refine AI (λcx a w=>∃cy:LL,∃cz:Int,(cy,cz)=cx∧∃(cA:GH) (cB:Value) (cC:Itm),GLe ck cA∧Fr a 94 [(3,cB),(10,co),(11,(iv cz))]∧Mem W cA w (cC::H)∧Ow R1 33 cA cC cB cy) cr ⟨_,_,Z,_,af,ae,gr,f.k Z,m,ag⟩ ?_
    clear cr f m
    rintro cx cD cE cF a w ⟨cy,cz,rfl,cA,cB,cC,cG,f,m,cH⟩
    have cp:=rd2 cG cp
    refine Ag (Ae ?_)
    refine Ab f Z λa f=>Ab f Z λa f=>AZ underlying24 f Z Z cp λa f=>Aj f Z Z AP λa f=>Aa ?_
    rcases Af cE with⟨cI,cE⟩|⟨cI,cE⟩
    ·refine Al f Z cI ?_
     refine An ?_
     refine Ag (Ak (Ae ?_))
     refine Ac f Z λa f=>Aa (Ag (Ae ?_))
     refine Ac f Z λa f=>Aa ?_
     have⟨cJ,cK,cE⟩:=bind_some cE
     refine AM (λa w=>∃cL:Bool,cL=cJ∧∃(cM:GH),GLe cA cM∧Fr a 94 [(3,cB),(10,co),(11,(iv cz)),(12,(.bool cL))]∧Mem W cM w (cC::H)) ?_ ?_
     ·refine Ak ?_
      refine AI (λcN a w=>∃cO:Bool,∃cP:Int,(cO,cP)=cN∧∃(cQ:GH),GLe cA cQ∧Fr a 94 [(3,cB),(10,co),(11,(iv cz)),(12,(.bool cO)),(13,(iv cP))]∧Mem W cQ w (cC::H)) cK ⟨_,_,Z,_,gr,f.k Z,m⟩ ?_
      clear cK f m
      rintro cN cR cS cT a w ⟨cO,cP,rfl,cQ,cU,f,m⟩
      have cp:=rd2 cU cp
      have cH:=Ow.mono (RSl.mono (RI.mono _)) cU cH
      refine Ag (Ae ?_)
      refine Ab f Z λa f=>Ab f Z λa f=>Bz 0 m cH Z underlying24 f Z Z λa f=>Aj f Z Z AP λa f=>Aa ?_
      rcases Af cS with⟨cV,cS⟩|⟨cV,cS⟩
      ·refine Al f Z cV ?_
       refine An ?_
       refine Ag (Ak ?_)
       refine Bp 13 A7 (by kernel_rfl) m ?_
       refine AJ 0 13 Z f Z λa f=>AJ 1 13 Z f Z λa f=> ?_
       have⟨cW,cX,cS⟩:=bind_some cS
       refine q_cut (fuel':=1) (listed':= #[true,true,true,true,true,true,true,true,true,true,true,true,false]) (λa=>Fr a 94 [(3,cB),(10,co),(11,(iv cz)),(12,(.bool cO)),(13,(iv cP)),(68,(.bool (decide (cP<(cy.length:Int))))),(71,(.bool cO)),(72,(.bool cO)),(82,(.bool cW))]) ?_ ?_
       ·intro a f
        refine q_p 12 13 Z f (λ_=>A6 (f.e Z)) λa f=>Bd λcY w cZ m=>Aa (Ah ?_)
        refine Ab f Z λa f=>Aj f Z Z Ay λa f=>Ac f Z λa f=>Aa ?_
        obtain rfl:=sj cS
        exact⟨_,Z,_,_,Z,_,(gt cU cZ),f.k Z,m⟩
       ·intro c0
        rcases Af cX with⟨c1,cX⟩|⟨c1,cX⟩
        ·refine Bb 2 13 Z f c1 λa f=> ?_
         refine Bb 3 13 Z f c1 λa f=>Bb 4 13 Z f c1 λa f=>Bb 5 13 Z f c1 λa f=>Bb 6 13 Z f c1 λa f=>Bb 7 13 Z f c1 λa f=>Bb 8 13 Z f c1 λa f=>Bb 9 13 Z f c1 λa f=>Bb 10 13 Z f c1 λa f=>q_p 11 13 Z f (λ_=>AW (f.e Z) c1 (f.e Z)) λa f=> ?_
         obtain rfl:=sj cX
         exact c0 _ (f.k Z)
        ·refine AJ (hw:=wo f c1) 2 13 Z f Z λa f=> ?_
         refine AJ (hw:=wo f c1) 3 13 Z f Z λa f=> ?_
         have⟨c2,c3,cX⟩:=bind_some cX
         refine q_oa (hw:=wo f c1) 4 13 0 m cH T24 c3 Z f Z Z λc4 a c5 f=>q_ol (hw:=wo f c1) 5 13 0 cH Br c5 c3 Z f Z λc6 a c7 f=>AJ (hw:=wo f c1) 6 13 Z f Z λa f=>AJ (hw:=wo f c1) 7 13 Z f Z λa f=> ?_
         have⟨c8,c9,cX⟩:=bind_some cX
         refine B8 (hw:=wo f c1) 8 13 T24 cp c9 Z f Z Z λda db a dc dd f=>B6 (hw:=wo f c1) 9 13 Br dc Z f Z λa f=> ?_
         have⟨de,df,cX⟩:=bind_some cX
         refine B7 (i:=10) 13 Z (by kernel_rfl) Z f (Cr f Z Z Z c1) Z Z call207 (λ_ _ w dg m=>Wk.q0 m (rd1 dg c7) (rd1 dg dd) df) λa f=>q_p 11 13 Z f (λ_=>AX (f.e Z) c1 (f.e Z)) λa f=> ?_
         obtain rfl:=sj cX
         exact c0 _ (f.k Z)
      ·refine Ai f Z cV ?_
       refine AG Z ?_
       obtain rfl:=sj cS
       obtain rfl:=cT _ rfl
       exact⟨_,Z,_,cU,f.k Z,m⟩
     ·rintro a w ⟨cL,rfl,cM,dh,f,m⟩
      have cp:=rd2 dh cp
      have cH:=Ow.mono (RSl.mono (RI.mono _)) dh cH
      refine Ae ?_
      refine Ab f Z λa f=>l_o f (Bc (f.e Z)) λa f=>Aa ?_
      rcases Af cE with⟨di,cE⟩|⟨di,cE⟩
      ·refine Al f Z di ?_
       refine Ah ?_
       refine Ab f Z λa f=>Ab f Z λa f=>Ab f Z λa f=> ?_
       have⟨dj,dk,cE⟩:=bind_some cE
       refine Be T24 f Z Z Z cp dk λdl dm a dn dp f=>AK m Br f Z Z dn λa f=> ?_
       have⟨dq,dr,cE⟩:=bind_some cE
       refine AA f Z call87 (Wk.E m dp dr) λdt du dv w dw m dx a f=> ?_
       obtain⟨dy,dz,rfl,rfl,dA⟩:=dx
       have cH:=Ow.mono (RSl.mono (RI.mono _)) dw cH
       obtain⟨dB,dC,m,dD⟩:=Ow.stamp (RI.mono _) dA m
       have cH:=Ow.mono (RSl.mono (RI.mono _)) dC cH
       refine AF (R:=R1) (xs:=([dq]:LL)) (RSl.one _) m T24 f Z Z Z (by decide) (All2.cons dD (All2.nil _)) λdE dF w a m dG f=> ?_
       have⟨dH,dI,cE⟩:=bind_some cE
       refine AT (RSl.one _) 1 m cH Z T24 Z (by decide) f Z Z Z (Ow.src (j:=0) dG m Z) dI λdJ dK w a m dL f=>Ac f Z λa f=>Aa (Ah ?_)
       refine Ab f Z λa f=>Aj f Z Z Ay λa f=>Ac f Z λa f=>Aa ?_
       have m:=m.fr 1
       have m:=m.eraseAt 1
       obtain rfl:=sj cE
       exact⟨_,Z,_,_,Z,_,dK,dJ,(gt cG (gt dh (gt dw dC))),f.k Z,m,dL⟩
      ·refine Ai f Z di ?_
       refine An ?_
       refine Ah ?_
       refine Ab f Z λa f=>Aj f Z Z Ay λa f=>Ac f Z λa f=>Aa ?_
       obtain rfl:=sj cE
       exact⟨_,Z,_,_,Z,_,cB,cC,(gt cG dh),f.k Z,m,cH⟩
    ·refine Ai f Z cI ?_
     refine AG Z ?_
     obtain rfl:=sj cE
     obtain rfl:=cF _ rfl
     exact⟨_,Z,_,cB,cC,cG,f.k Z,m,cH⟩
   ·rintro a w ⟨ct,rfl,cu,cv,cw,dM,f,m,dN⟩
    refine Ae ?_
    refine Ab f Z λa f=>Ac f Z λa f=>Aa ?_
    refine Ao ?_
    obtain rfl:=sj hd
    exact⟨[cv],f.g Z,f.d,_,[cw],(gt ak (gt ap (gt av (gt aB (gt b6 (gt cc (gt cf (gt cm dM)))))))),m,_,_,Z,Z,dN⟩
end Go.Proofs.YtgadoeifdbijcaaGreatDoor

set_option maxRecDepth 100000
namespace Go.Proofs.YtgadoeifdbijcaaGreatDoor
open Go Go.Sx
open Go.Proofs.Tryz Go.Proofs.YtgadoeifdbijcaaGreatDoor.Tryz IntKind
variable {W w : World} {G : GH} {H : List Itm}
theorem T76 :SlT prog 76 80 1 4 (.int .u32 0):=⟨underlying76,Tryz.t80,by kernel_rfl,by kernel_rfl,by kernel_rfl,by kernel_rfl⟩
theorem T133 :SlT prog 133 3 1 8 (iv 0):=⟨underlying133,Tryz.t3,by kernel_rfl,by kernel_rfl,by kernel_rfl,by kernel_rfl⟩
theorem Wk.Z0 {aa:Value}{b0:Nat}{ab:Value}{ac:LI}{ad ae:Int}{af:LL}(m:Mem W G w (ib b0 181 [aa,(iv ad),(iv ae)]::H))(ag:RSl (RI .u8) G aa ac)(ah:R2 G ab af){y:(LI)×(LI)×Int×Int}(hd:D.Z0 ac ad ae af=some y):
  Calls prog 174 #[(pb b0),(.agg #[ab])] w (Res W G H (λG' Ho v=>∃r0:Value,∃i0:Itm,∃r2:Value,Ho=[i0,ib b0 181 [r2,(iv y.2.2.1),(iv y.2.2.2)]]∧r0=v∧Ow R0 2 G' i0 r0 y.1∧RSl (RI .u8) G' r2 y.2.1)):=by
 refine Ap (args:=[(pb b0),(.agg #[ab])]) (N:=32) [.tmp 4] func174 Z Z (lb Z) Z λa f=> ?_
 unfold D.Z0 at hd
 refine Ae ?_
 refine A8 (cs:=[ab]) m f Z Z Z λai w a m f=>Ac f Z λa f=>Az ?_
 refine AF (R:=R0) (xs:=([]:LI)) (RI.one _) m T33 f Z Z Z (by decide) (All2.nil _) λaj ak w a m al f=>Ac f Z λa f=>Aa (Ag (Ae ?_))
 refine Ac f Z λa f=>Aa ?_
 have⟨am,an,hd⟩:=bind_some hd
 refine AM (λa w=>∃ao:LI,∃ap:LI,∃aq:Int,∃ar:Int,(ao,ap,aq,ar)=am∧∃(au:GH) (av:Value) (aw:Itm) (ax:Value),GLe G au∧Fr a 32 [(0,(pb b0)),(3,(pb ai)),(5,av)]∧Mem W au w (ib b0 181 [ax,(iv aq),(iv ar)]::ib ai 26 [ab]::aw::H)∧Ow R0 2 au aw av ao∧RSl (RI .u8) au ax ap) ?_ ?_
 ·refine Ak ?_
  have m:=m.fr 1
  have m:Mem W G w (ib b0 181 [aa,(iv ad),(iv ae)]::ib ai 26 [ab]::aj::H):=m.fr 2
  refine AI (λay a w=>∃az:LI,∃aA:Int,∃aB:LI,∃aC:Int,∃aD:Int,(az,aA,aB,aC,aD)=ay∧∃(aE:GH) (aF:Value) (aG:Itm) (aH:Value),GLe G aE∧Fr a 32 [(0,(pb b0)),(3,(pb ai)),(5,aF),(6,(iv aA))]∧Mem W aE w (ib b0 181 [aH,(iv aC),(iv aD)]::ib ai 26 [ab]::aG::H)∧Ow R0 2 aE aG aF az∧RSl (RI .u8) aE aH aB) an ⟨_,_,_,_,_,Z,_,ak,aj,aa,gr,f.k Z,m,al,ag⟩ ?_
  clear an f m
  rintro ay aI aJ aK a w ⟨az,aA,aB,aC,aD,rfl,aE,aF,aG,aH,aL,f,m,aM,aN⟩
  have ah:=rd2 aL ah
  refine Ag (Ae ?_)
  refine Ab f Z λa f=>BQ underlying26 Z sizeOf24 f Z λa f=>AV 1 0 m BH f Z Z Z Z λa f=>AZ underlying24 f Z Z ah λa f=>Aj f Z Z AP λa f=>Aa ?_
  rcases Af aJ with⟨aO,aJ⟩|⟨aO,aJ⟩
  ·refine Al f Z aO ?_
   refine An ?_
   refine Ag (Ak (Ae ?_))
   refine Ab f Z λa f=> ?_
   have⟨aP,aQ,aJ⟩:=bind_some aJ
   refine AA f Z call172 (Wk.i m aN aQ) λaR aS aT w aU m aV a f=> ?_
   obtain⟨aW,rfl,rfl,aX⟩:=aV
   have aM:=od1 aU aM
   refine Aa ?_
   rcases Af aJ with⟨aY,aJ⟩|⟨aY,aJ⟩
   ·refine Al f Z aY ?_
    refine Ah ?_
    refine Ab f Z λa f=>Ab f Z λa f=>AF (R:=R0) (xs:=([aA]:LI)) (RI.one _) m T33 f Z Z Z (by decide) (All2.cons Z (All2.nil _)) λaZ a0 w a m a1 f=> ?_
    have⟨a2,a3,aJ⟩:=bind_some aJ
    refine AT (RI.one _) 3 m aM Z T33 Z (by decide) f Z Z Z (Ow.src (j:=0) a1 m Z) a3 λa4 a5 w a m a6 f=>Ac f Z λa f=>Aa (Ah ?_)
    refine Ab f Z λa f=>Aj f Z Z Ay λa f=>Ac f Z λa f=>Aa ?_
    have m:=m.fr 3
    have m:=m.fr 3
    have m:Mem W aS w (ib b0 181 [aW,(iv aP.2.2.1),(iv aP.2.2.2)]::ib ai 26 [ab]::a4::aZ::H):=m.fr 3
    have m:Mem W aS w (ib b0 181 [aW,(iv aP.2.2.1),(iv aP.2.2.2)]::ib ai 26 [ab]::a4::H):=m.eraseAt 3
    obtain rfl:=sj aJ
    exact⟨_,Z,_,_,_,_,_,Z,_,a5,a4,aW,(gt aL aU),f.k Z,m,a6,aX⟩
   ·refine Ai f Z aY ?_
    refine An ?_
    refine Ah ?_
    refine Ab f Z λa f=>Aj f Z Z Ay λa f=>Ac f Z λa f=>Aa ?_
    obtain rfl:=sj aJ
    exact⟨_,Z,_,_,_,_,_,Z,_,aF,aG,aW,(gt aL aU),f.k Z,m,aM,aX⟩
  ·refine Ai f Z aO ?_
   refine AG Z ?_
   obtain rfl:=sj aJ
   obtain rfl:=aK _ rfl
   exact⟨_,_,_,_,Z,_,aF,aG,aH,aL,f.k Z,m,aM,aN⟩
 ·rintro a w ⟨ao,ap,aq,ar,rfl,au,av,aw,ax,a7,f,m,a8,a9⟩
  have ah:=rd2 a7 ah
  refine Ag (Ae ?_)
  refine Ab f Z λa f=> ?_
  have⟨ba,bb,hd⟩:=bind_some hd
  refine AA f Z call172 (Wk.i m a9 bb) λbc bd be w bf m bg a f=> ?_
  obtain⟨bh,rfl,rfl,bi⟩:=bg
  have ah:=rd2 bf ah
  have a8:=od1 bf a8
  refine Aa ?_
  rcases Af hd with⟨bj,hd⟩|⟨bj,hd⟩
  ·refine Al f Z bj ?_
   refine Ah ?_
   refine Ab f Z λa f=>Ab f Z λa f=>BQ underlying26 Z sizeOf24 f Z λa f=>AV 1 0 m BH f Z Z Z Z λa f=>AZ underlying24 f Z Z ah λa f=> ?_
   have⟨bk,bl,hd⟩:=bind_some hd
   refine AA f Z call246 (Wk.R m bi bl) λbm bn bo w bp m bq a f=> ?_
   obtain⟨br,rfl,rfl,bs⟩:=bq
   have a8:=od1 bp a8
   refine AF (R:=R0) (xs:=([bk.1]:LI)) (RI.one _) m T33 f Z Z Z (by decide) (All2.cons Z (All2.nil _)) λbt bu w a m bv f=> ?_
   have⟨bw,bx,hd⟩:=bind_some hd
   refine AT (RI.one _) 3 m a8 Z T33 Z (by decide) f Z Z Z (Ow.src (j:=0) bv m Z) bx λbz bA w a m bB f=>Ac f Z λa f=>Az ?_
   refine Ab f Z λa f=>Ac f Z λa f=>Aa ?_
   refine Ao ?_
   have m:=m.fr 1
   have m:=m.fr 3
   have m:Mem W bn w (bz::ib b0 181 [br,(iv bk.2.2.1),(iv bk.2.2.2)]::bt::H):=m.eraseAt 3
   have m:Mem W bn w (bz::ib b0 181 [br,(iv bk.2.2.1),(iv bk.2.2.2)]::H):=m.eraseAt 2
   obtain rfl:=sj hd
   exact⟨[bA],f.g Z,f.d,_,[bz,ib b0 181 [br,(iv bk.2.2.1),(iv bk.2.2.2)]],(gt a7 (gt bf bp)),m,_,_,_,Z,Z,bB,bs⟩
  ·refine Ai f Z bj ?_
   refine An ?_
   refine Ae ?_
   refine Ab f Z λa f=>Ac f Z λa f=>Aa ?_
   refine Ao ?_
   have m:=m.fr 2
   have m:Mem W bd w (aw::ib b0 181 [bh,(iv ba.2.2.1),(iv ba.2.2.2)]::H):=m.eraseAt 2
   obtain rfl:=sj hd
   exact⟨[av],f.g Z,f.d,_,[aw,ib b0 181 [bh,(iv ba.2.2.1),(iv ba.2.2.2)]],(gt a7 bf),m,_,_,_,Z,Z,a8,bi⟩
theorem Wk.Y0 {aa:Value}{b0:Nat}{ab:LI}{ac ad:Int}(m:Mem W G w (ib b0 181 [aa,(iv ac),(iv ad)]::H))(ae:RSl (RI .u8) G aa ab){y:(LL)×(LL)×(LI)×Int×Int}(hd:D.Y0 ab ac ad=some y):
  Calls prog 53 #[(pb b0)] w (Res W G H (λG' Ho v=>∃r0:Value,∃r1:Value,∃i1:Itm,∃r3:Value,Ho=[i1,ib b0 181 [r3,(iv y.2.2.2.1),(iv y.2.2.2.2)]]∧v= .tuple #[(.agg #[r0]),r1]∧R2 G' r0 y.1∧Ow R1 33 G' i1 r1 y.2.1∧RSl (RI .u8) G' r3 y.2.2.1)):=by
 refine Ap (args:=[(pb b0)]) (N:=53) [.cell 2 26,.tmp 3] func53 Z Z (lb Z) Z λa f=> ?_
 unfold D.Y0 at hd
 refine Ae ?_
 refine Bn (cs:=[sn]) zeroValue26 m f Z Z λaf w a m f=>Ac f Z λa f=>Az ?_
 refine Ab f Z λa f=> ?_
 have m:Mem W G w (ib b0 181 [aa,(iv ac),(iv ad)]::ib af 26 [sn]::H):=m.fr 1
 have⟨ag,ah,hd⟩:=bind_some hd
 refine AA f Z call170 (Wk.y0 m ae ah) λai aj ak w al m am a f=> ?_
 obtain⟨an,ao,ap,rfl,rfl,aq,ar⟩:=am
 refine Bn (cs:=[sn]) zeroValue26 m f Z Z λau w a m f=>AD 0 0 (ds:=[an]) m sizeOf26 f Z Z Z (AL (Ow2.one1 1 m aq Z) AO) Z (lb Z) Z λw m=>Az ?_
 refine Aw 0 0 (ds:=[an]) m AE f Z Z Z Z Z λa f=> ?_
 have m:Mem W aj w (ao::ib au 26 [an]::ib b0 181 [ap,(iv ag.2.2.1),(iv ag.2.2.2)]::ib af 26 [sn]::H):=m.fr 1
 obtain⟨av,aw,m,ax⟩:=Ow2.stamp (RI.mono _) aq m
 have ar:=rd1 aw ar
 have⟨ay,az,hd⟩:=bind_some hd
 refine AA f Z call171 (Wk.O0 m ax az) λaA aB aC w aD m aE a f=> ?_
 obtain⟨aF,aG,rfl,rfl,aH⟩:=aE
 have ax:=rd2 aD ax
 have ar:=rd1 aD ar
 refine Ac f Z λa f=>Aa (Ag (Ae ?_))
 refine Ab f Z λa f=> ?_
 have m:Mem W aB w (ib b0 181 [ap,(iv ag.2.2.1),(iv ag.2.2.2)]::aG::ib au 26 [an]::ib af 26 [sn]::H):=m.fr 2
 have⟨aI,aJ,hd⟩:=bind_some hd
 refine AA f Z call172 (Wk.i m ar aJ) λaK aL aM w aN m aO a f=> ?_
 obtain⟨aP,rfl,rfl,aQ⟩:=aO
 have aH:=Ow.mono (RSl.mono (RI.mono _)) aN aH
 have ax:=rd2 aN ax
 refine Aa ?_
 have⟨aR,aS,hd⟩:=bind_some hd
 refine AM (λa w=>∃aT:LL,∃aU:LI,∃aV:Int,∃aW:Int,(aT,aU,aV,aW)=aR∧∃(aX:GH) (aY:Value) (aZ:Itm) (a0:Value),GLe aL aX∧Fr a 53 [(0,(pb b0)),(2,(pb af)),(4,(pb au)),(5,aY)]∧Mem W aX w (ib b0 181 [a0,(iv aV),(iv aW)]::ib af 26 [sn]::ib au 26 [an]::aZ::H)∧Ow R1 33 aX aZ aY aT∧RSl (RI .u8) aX a0 aU) ?_ ?_
 ·rcases Af aS with⟨a1,aS⟩|⟨a1,aS⟩
  ·refine Al f Z a1 ?_
   refine Ae ?_
   refine AF (R:=R1) (xs:=([]:LL)) (RSl.one _) m T24 f Z Z Z (by decide) (All2.nil _) λa2 a3 w a m a4 f=>Ac f Z λa f=>Az ?_
   refine Ab f Z λa f=> ?_
   have m:Mem W aL w (ib b0 181 [aP,(iv aI.2.2.1),(iv aI.2.2.2)]::a2::aG::ib au 26 [an]::ib af 26 [sn]::H):=m.fr 1
   have⟨a5,a6,aS⟩:=bind_some aS
   refine AA f Z call173 (Wk.a m aQ a6) λa7 a8 a9 w ba m bb a f=> ?_
   obtain⟨bc,rfl,rfl,bd⟩:=bb
   have a4:=Ow.mono (RSl.mono (RI.mono _)) ba a4
   have ax:=rd2 ba ax
   refine Ac f Z λa f=>Aa ?_
   have⟨be,bf,aS⟩:=bind_some aS
   refine AM (λa w=>∃bg:LL,∃bh:LI,∃bi:Int,∃bj:Int,(bg,bh,bi,bj)=be∧∃(bk:GH) (bl:Value) (bm:Itm) (bn:Value),GLe a8 bk∧Fr a 53 [(0,(pb b0)),(2,(pb af)),(4,(pb au)),(5,bl)]∧Mem W bk w (ib b0 181 [bn,(iv bi),(iv bj)]::ib af 26 [sn]::ib au 26 [an]::bm::H)∧Ow R1 33 bk bm bl bg∧RSl (RI .u8) bk bn bh) ?_ ?_
   ·refine Ak ?_
    have m:=m.fr 3
    have m:=m.fr 4
    have m:Mem W a8 w (ib b0 181 [bc,(iv a5.2.2.1),(iv a5.2.2.2)]::ib af 26 [sn]::ib au 26 [an]::a2::aG::H):=m.fr 2
    have m:Mem W a8 w (ib b0 181 [bc,(iv a5.2.2.1),(iv a5.2.2.2)]::ib af 26 [sn]::ib au 26 [an]::a2::H):=m.eraseAt 4
    refine AI (λbo a w=>∃bp:LL,∃bq:Int,∃br:LI,∃bs:Int,∃bt:Int,(bp,bq,br,bs,bt)=bo∧∃(bu:GH) (bv:Value) (bw:Itm) (bx:Value),GLe a8 bu∧Fr a 53 [(0,(pb b0)),(2,(pb af)),(4,(pb au)),(5,bv),(6,(iv bq))]∧Mem W bu w (ib b0 181 [bx,(iv bs),(iv bt)]::ib af 26 [sn]::ib au 26 [an]::bw::H)∧Ow R1 33 bu bw bv bp∧RSl (RI .u8) bu bx br) bf ⟨_,_,_,_,_,Z,_,a3,a2,bc,gr,f.k Z,m,a4,bd⟩ ?_
    clear bf f m
    rintro bo bz bA bB a w ⟨bp,bq,br,bs,bt,rfl,bu,bv,bw,bx,bC,f,m,bD,bE⟩
    have ax:=rd2 bC ax
    refine Ag (Ae ?_)
    refine Ab f Z λa f=>Aj f Z Z Cu λa f=>Aa ?_
    rcases Af bA with⟨bF,bA⟩|⟨bF,bA⟩
    ·refine Al f Z bF ?_
     refine An ?_
     refine Ag (Ak (Ah ?_))
     refine Ab f Z λa f=>Ab f Z λa f=>Aw 2 0 (ds:=[an]) m AE f Z Z Z Z Z λa f=> ?_
     have⟨bG,bH,bA⟩:=bind_some bA
     refine AA f Z call174 (Wk.Z0 m bE ax bH) λbI bJ bK w bL m bM a f=> ?_
     obtain⟨bN,bO,bP,rfl,rfl,bQ,bR⟩:=bM
     have bD:=Ow.mono (RSl.mono (RI.mono _)) bL bD
     obtain⟨bS,bT,m,bU⟩:=Ow.stamp (RI.mono _) bQ m
     have bR:=rd1 bT bR
     have bD:=Ow.mono (RSl.mono (RI.mono _)) bT bD
     refine AF (R:=R1) (xs:=([bG.1]:LL)) (RSl.one _) m T24 f Z Z Z (by decide) (All2.cons bU (All2.nil _)) λbV bW w a m bX f=> ?_
     have⟨bY,bZ,bA⟩:=bind_some bA
     refine AT (RSl.one _) 4 m bD Z T24 Z (by decide) f Z Z Z (Ow.src (j:=0) bX m Z) bZ λb1 b2 w a m b3 f=>Ac f Z λa f=>Aa (Ah ?_)
     refine Ab f Z λa f=>Aj f Z Z Ct λa f=>Ac f Z λa f=>Aa ?_
     have m:=m.fr 4
     have m:=m.fr 4
     have m:Mem W bS w (ib af 26 [sn]::ib au 26 [an]::b1::bV::ib b0 181 [bP,(iv bG.2.2.1),(iv bG.2.2.2)]::H):=m.fr 4
     have m:=m.fr 4
     have m:Mem W bS w (ib b0 181 [bP,(iv bG.2.2.1),(iv bG.2.2.2)]::ib af 26 [sn]::ib au 26 [an]::b1::H):=m.eraseAt 4
     obtain rfl:=sj bA
     exact⟨_,Z,_,_,_,_,_,Z,_,b2,b1,bP,(gt bC (gt bL bT)),f.k Z,m,b3,bR⟩
    ·refine Ai f Z bF ?_
     refine AG Z ?_
     obtain rfl:=sj bA
     obtain rfl:=bB _ rfl
     exact⟨_,_,_,_,Z,_,bv,bw,bx,bC,f.k Z,m,bD,bE⟩
   ·rintro a w ⟨bg,bh,bi,bj,rfl,bk,bl,bm,bn,b4,f,m,b5,b6⟩
    obtain rfl:=sj aS
    exact⟨_,_,_,_,Z,_,bl,bm,bn,(gt ba b4),f.k Z,m,b5,b6⟩
  ·refine Ai f Z a1 ?_
   refine An ?_
   have m:=m.fr 2
   have m:=m.fr 3
   have m:Mem W aL w (ib b0 181 [aP,(iv aI.2.2.1),(iv aI.2.2.2)]::ib af 26 [sn]::ib au 26 [an]::aG::H):=m.fr 2
   obtain rfl:=sj aS
   exact⟨_,_,_,_,Z,_,aF,aG,aP,gr,f.k Z,m,aH,aQ⟩
 ·rintro a w ⟨aT,aU,aV,aW,rfl,aX,aY,aZ,a0,b7,f,m,b8,b9⟩
  have ax:=rd2 b7 ax
  refine Ag (Ae ?_)
  refine Ab f Z λa f=> ?_
  have⟨ca,cb,hd⟩:=bind_some hd
  refine AA f Z call172 (Wk.i m b9 cb) λcc cd ce w cf m cg a f=> ?_
  obtain⟨ch,rfl,rfl,ci⟩:=cg
  have ax:=rd2 cf ax
  have b8:=Ow.mono (RSl.mono (RI.mono _)) cf b8
  refine Ab f Z λa f=> ?_
  refine Bh 4 (λa w=>∃cj,GLe cd cj∧Mem W cj w (ib b0 181 [ch,(iv ca.2.2.1),(iv ca.2.2.2)]::ib af 26 [sn]::ib au 26 [an]::aZ::H)∧Fr a 53 [(0,(pb b0)),(2,(pb af)),(4,(pb au)),(5,aY),(26,(pb b0)),(27,(.bool ca.1)),(28,(.bool ca.1)),(32,(.bool (ca.1&&(decide ((0:Int)<(aT.length:Int))))))]) ?_ ?_
  ·rcases Bool.eq_false_or_eq_true ca.1 with ck|ck
   ·refine As f ck ?_
    refine Ab f Z λa f=>As f ck ?_
    refine Bz 3 m b8 Z underlying24 f Z Z λa f=>As f ck ?_
    refine Aj f Z Z Cu λa f=>l_o f (AW (f.e Z) ck (f.e Z)) λa f=> ?_
    exact⟨_,gr,m,f.weak ⟨Z,Z,Z,Z,Z,Z,Z,by rw[ck];rfl,trivial⟩⟩
   ·refine Au f ck λa f=> ?_
    refine Au f ck λa f=>Au f ck λa f=>l_o f (AX (f.e Z) ck (f.e Z)) λa f=> ?_
    exact⟨_,gr,m,f.weak ⟨Z,Z,Z,Z,Z,Z,Z,by rw[ck];rfl,trivial⟩⟩
  ·rintro a w ⟨cj,cl,m,f⟩
   have ci:=rd1 cl ci
   have ax:=rd2 cl ax
   have b8:=Ow.mono (RSl.mono (RI.mono _)) cl b8
   refine Aa ?_
   have⟨cm,cn,hd⟩:=bind_some hd
   refine AM (λa w=>∃co:LL,∃cp:LI,∃cq:Int,∃cr:Int,(co,cp,cq,cr)=cm∧∃(ct:GH) (cu:Value) (cv:Itm) (cw:Value),GLe cj ct∧Fr a 53 [(0,(pb b0)),(2,(pb af)),(4,(pb au)),(5,cu)]∧Mem W ct w (ib b0 181 [cw,(iv cq),(iv cr)]::ib af 26 [sn]::ib au 26 [an]::cv::H)∧Ow R1 33 ct cv cu co∧RSl (RI .u8) ct cw cp) ?_ ?_
   ·rcases Af cn with⟨cx,cn⟩|⟨cx,cn⟩
    ·refine Al f Z cx ?_
     refine Ah ?_
     refine Ab f Z λa f=>Ab f Z λa f=>Ab f Z λa f=>Bz 3 m b8 Z underlying24 f Z Z λa f=> ?_
     have⟨cy,cz,cn⟩:=bind_some cn
     refine AA f Z call173 (Wk.a m ci cz) λcA cB cC w cD m cE a f=> ?_
     obtain⟨cF,rfl,rfl,cG⟩:=cE
     have b8:=Ow.mono (RSl.mono (RI.mono _)) cD b8
     have⟨cH,cI,cn⟩:=bind_some cn
     refine l_own_cut 3 m b8 Z T24 f Z Z (.inl Z) Z cI λcJ cK a m cL f=>Ac f Z λa f=>Aa ?_
     obtain rfl:=sj cn
     exact⟨_,_,_,_,Z,_,cK,cJ,cF,cD,f.k Z,m,cL,cG⟩
    ·refine Ai f Z cx ?_
     refine An ?_
     obtain rfl:=sj cn
     exact⟨_,_,_,_,Z,_,aY,aZ,ch,gr,f.k Z,m,b8,ci⟩
   ·rintro a w ⟨co,cp,cq,cr,rfl,ct,cu,cv,cw,cM,f,m,cN,cO⟩
    have ax:=rd2 cM ax
    refine Ag (Ae ?_)
    refine Ab f Z λa f=> ?_
    have⟨cP,cQ,hd⟩:=bind_some hd
    refine AA f Z call172 (Wk.i m cO cQ) λcR cS cT w cU m cV a f=> ?_
    obtain⟨cW,rfl,rfl,cX⟩:=cV
    have ax:=rd2 cU ax
    have cN:=Ow.mono (RSl.mono (RI.mono _)) cU cN
    refine Aa ?_
    rcases Af hd with⟨cY,hd⟩|⟨cY,hd⟩
    ·refine Al f Z cY ?_
     have⟨cZ,c0,hd⟩:=bind_some hd
     refine AM (λa w=>∃c1:LL,∃c2:LI,∃c3:Int,∃c4:Int,(c1,c2,c3,c4)=cZ∧∃(c5:GH) (c6:Value) (c7:Itm) (c8:Value),GLe cS c5∧Fr a 53 [(2,(pb af)),(4,(pb au)),(5,c6)]∧Mem W c5 w (ib af 26 [sn]::ib au 26 [an]::ib b0 181 [c8,(iv c3),(iv c4)]::c7::H)∧Ow R1 33 c5 c7 c6 c1∧RSl (RI .u8) c5 c8 c2) ?_ ?_
     ·refine Ak ?_
      refine AI (λc9 a w=>∃da:LL,∃db:LI,∃dc:Int,∃dd:Int,(da,db,dc,dd)=c9∧∃(de:GH) (df:Value) (dg:Itm) (dh:Value),GLe cS de∧Fr a 53 [(0,(pb b0)),(2,(pb af)),(4,(pb au)),(5,df)]∧Mem W de w (ib b0 181 [dh,(iv dc),(iv dd)]::ib af 26 [sn]::ib au 26 [an]::dg::H)∧Ow R1 33 de dg df da∧RSl (RI .u8) de dh db) c0 ⟨_,_,_,_,Z,_,cu,cv,cW,gr,f.k Z,m,cN,cX⟩ ?_
      clear c0 f m
      rintro c9 di dj dk a w ⟨da,db,dc,dd,rfl,de,df,dg,dh,dl,f,m,dm,dn⟩
      refine Ag (Ae ?_)
      refine Ab f Z λa f=>Bz 3 m dm Z underlying24 f Z Z λa f=>Ab f Z λa f=> ?_
      have⟨dp,dq,dj⟩:=bind_some dj
      refine AA f Z call173 (Wk.a m dn dq) λdr dt du w dv m dw a f=> ?_
      obtain⟨dx,rfl,rfl,dy⟩:=dw
      have dm:=Ow.mono (RSl.mono (RI.mono _)) dv dm
      refine Aj f Z Z Ay λa f=>Aj f Z Z AP λa f=>Aa ?_
      rcases Af dj with⟨dz,dj⟩|⟨dz,dj⟩
      ·refine Al f Z dz ?_
       refine An ?_
       refine Ak (Ah ?_)
       refine Ab f Z λa f=>AF (R:=R0) (xs:=([0]:LI)) (RI.one _) m T33 f Z Z Z (by decide) (All2.cons Z (All2.nil _)) λdA dB w a m dC f=> ?_
       obtain⟨dD,dE,m,dF⟩:=Ow.stamp (RI.mono _) dC m
       have dy:=rd1 dE dy
       have dm:=Ow.mono (RSl.mono (RI.mono _)) dE dm
       refine AF (R:=R1) (xs:=([([0]:LI)]:LL)) (RSl.one _) m T24 f Z Z Z (by decide) (All2.cons dF (All2.nil _)) λdG dH w a m dI f=> ?_
       have⟨dJ,dK,dj⟩:=bind_some dj
       refine AT (RSl.one _) 4 m dm Z T24 Z (by decide) f Z Z Z (Ow.src (j:=0) dI m Z) dK λdL dM w a m dN f=>Ac f Z λa f=>Aa ?_
       have m:=m.fr 4
       have m:=m.fr 4
       have m:Mem W dD w (ib af 26 [sn]::ib au 26 [an]::dL::dG::ib b0 181 [dx,(iv dp.2.2.1),(iv dp.2.2.2)]::H):=m.fr 4
       have m:=m.fr 4
       have m:Mem W dD w (ib b0 181 [dx,(iv dp.2.2.1),(iv dp.2.2.2)]::ib af 26 [sn]::ib au 26 [an]::dL::H):=m.eraseAt 4
       obtain rfl:=sj dj
       exact⟨_,Z,_,_,_,_,Z,_,dM,dL,dx,(gt dl (gt dv dE)),f.k Z,m,dN,dy⟩
      ·refine Ai f Z dz ?_
       refine AG Z ?_
       have m:=m.fr 2
       have m:Mem W dt w (ib af 26 [sn]::ib au 26 [an]::ib b0 181 [dx,(iv dp.2.2.1),(iv dp.2.2.2)]::dg::H):=m.fr 2
       obtain rfl:=sj dj
       obtain rfl:=dk _ rfl
       exact⟨_,_,_,_,Z,_,df,dg,dx,(gt dl dv),f.k Z,m,dm,dy⟩
     ·rintro a w ⟨c1,c2,c3,c4,rfl,c5,c6,c7,c8,dO,f,m,dP,dQ⟩
      have ax:=rd2 dO ax
      refine Ae ?_
      refine Aw 1 0 (ds:=[an]) m AE f Z Z Z Z Z λa f=>Ab f Z λa f=>AD 0 0 (ds:=[an]) m sizeOf26 f Z Z Z (AL ax.one1 AO) Z (lb Z) Z λw m=>Ac f Z λa f=>Aa ?_
      refine Ao ?_
      have dR:=BM (P:=prog) 0 m AE f (s:=2) rfl rfl rfl
      have m:=m.fr 2
      have m:=m.fr 3
      have m:Mem W c5 w (c7::ib b0 181 [c8,(iv c3),(iv c4)]::ib af 26 [an]::H):=m.eraseAt 3
      have m:=m.eraseAt 2
      obtain rfl:=sj hd
      exact⟨[(.agg #[an]),c6],⟨dR,f.get _ _ Z,trivial⟩,f.d,_,[c7,ib b0 181 [c8,(iv c3),(iv c4)]],(gt al (gt aw (gt aD (gt aN (gt b7 (gt cf (gt cl (gt cM (gt cU dO))))))))),m,_,_,_,_,Z,Z,ax,dP,dQ⟩
    ·refine Ai f Z cY ?_
     refine An ?_
     refine Ae ?_
     refine Aw 2 0 (ds:=[an]) m AE f Z Z Z Z Z λa f=>Ab f Z λa f=>AD 1 0 (ds:=[an]) m sizeOf26 f Z Z Z (AL ax.one1 AO) Z (lb Z) Z λw m=>Ac f Z λa f=>Aa ?_
     refine Ao ?_
     have dS:=BM (P:=prog) 1 m AE f (s:=2) rfl rfl rfl
     have m:=m.fr 3
     have m:=m.eraseAt 3
     have m:Mem W cS w (cv::ib b0 181 [cW,(iv cP.2.2.1),(iv cP.2.2.2)]::H):=m.eraseAt 2
     obtain rfl:=sj hd
     exact⟨[(.agg #[an]),cu],⟨dS,f.get _ _ Z,trivial⟩,f.d,_,[cv,ib b0 181 [cW,(iv cP.2.2.1),(iv cP.2.2.2)]],(gt al (gt aw (gt aD (gt aN (gt b7 (gt cf (gt cl (gt cM cU)))))))),m,_,_,_,_,Z,Z,ax,cN,cX⟩
theorem Wk.X0 {v0:Value}{x0:LI}(m:Mem W G w (H))(h0:RSl (RI .u8) G v0 x0){y:(LL)×(LL)}(hd:D.X0 x0=some y):
  Calls prog 8 #[v0] w (Res W G H (λG' Ho v=>∃r0:Value,∃r1:Value,∃i1:Itm,Ho=[i1]∧v= .tuple #[(.agg #[r0]),r1]∧R2 G' r0 y.1∧Ow R1 33 G' i1 r1 y.2)):=by
 refine Ap (args:=[v0]) (N:=11) [.cell 2 26,.tmp 3] func8 Z Z (lb Z) Z λa f=> ?_
 unfold D.X0 at hd
 refine Ae ?_
 refine Bn (cs:=[sn]) zeroValue26 m f Z Z λaa w a m f=>Ac f Z λa f=>Az ?_
 refine Ab f Z λa f=> ?_
 have⟨ab,ac,hd⟩:=bind_some hd
 refine AA f Z call52 (Wk.F0 m h0 ac) λad ae af w ag m ah a f=> ?_
 obtain⟨ai,aj,rfl,rfl,ak⟩:=ah
 refine Ac f Z λa f=>Az ?_
 refine Ab f Z λa f=> ?_
 have⟨al,am,hd⟩:=bind_some hd
 refine AA f Z call53 (Wk.Y0 m ak am) λan ao ap w aq m ar a f=> ?_
 obtain⟨au,av,aw,ax,rfl,rfl,ay,az,aA⟩:=ar
 refine l_o f (BA (f.e Z) Z) λa f=>l_o f (BA (f.e Z) Z) λa f=>AD 2 0 (ds:=[au]) m sizeOf26 f Z Z Z (AL ay.one1 AO) Z (lb Z) Z λw m=>Ac f Z λa f=>Aa ?_
 refine Ao ?_
 have aB:=BM (P:=prog) 2 m AE f (s:=2) rfl rfl rfl
 have m:=m.eraseAt 2
 have m:=m.eraseAt 1
 obtain rfl:=sj hd
 exact⟨[(.agg #[au]),av],⟨aB,f.get _ _ Z,trivial⟩,f.d,_,[aw],(gt ag aq),m,_,_,_,Z,Z,ay,az⟩
theorem Wk.i1 {x0 x1 x2:Int}(m:Mem W G w (H)){y:Bool}(hd:D.i1 x0 x1 x2=some y):
  Calls prog 136 #[(iv x0),(iv x1),(iv x2)] w (Res W G H (λ_ Ho v=>Ho=[]∧v=(.bool y))):=by
 refine Ap (args:=[(iv x0),(iv x1),(iv x2)]) (N:=15) [.tmp 6] func136 Z Z (lb Z) Z λa f=> ?_
 unfold D.i1 at hd
 refine Ae ?_
 refine Ac f Z λa f=>Az ?_
 refine Ab f Z λa f=>Ab f Z λa f=>Aj f Z Z CN λa f=>Ab f Z λa f=> ?_
 refine Bh 4 (λa w=>∃aa,GLe G aa∧Mem W aa w (H)∧Fr a 15 [(0,(iv x0)),(1,(iv x1)),(2,(iv x2)),(7,(iv x1)),(8,(iv x0)),(9,(.bool (decide (x1≤x0)))),(10,(.bool (decide (x1≤x0)))),(14,(.bool ((decide (x1≤x0))&&(decide (x0≤x2)))))]) ?_ ?_
 ·rcases Bool.eq_false_or_eq_true (decide (x1≤x0)) with ab|ab
  ·refine As f ab ?_
   refine Ab f Z λa f=>As f ab ?_
   refine Ab f Z λa f=>As f ab ?_
   refine Aj f Z Z CN λa f=>l_o f (AW (f.e Z) ab (f.e Z)) λa f=> ?_
   exact⟨_,gr,m,f.weak ⟨Z,Z,Z,Z,Z,Z,Z,by rw[ab];rfl,trivial⟩⟩
  ·refine Au f ab λa f=> ?_
   refine Au f ab λa f=>Au f ab λa f=>l_o f (AX (f.e Z) ab (f.e Z)) λa f=> ?_
   exact⟨_,gr,m,f.weak ⟨Z,Z,Z,Z,Z,Z,Z,by rw[ab];rfl,trivial⟩⟩
 ·rintro a w ⟨aa,ac,m,f⟩
  refine Ac f Z λa f=>Aa ?_
  refine Ao ?_
  obtain rfl:=sj hd
  exact⟨[(.bool ((decide (x1≤x0))&&(decide (x0≤x2))))],f.g Z,f.d,_,[],ac,m,Z,Z⟩
theorem Wk.a0 {v0:Value}{x0:LI}{x1:Int}(m:Mem W G w (H))(h0:R1 G v0 x0){y:Bool}(hd:D.a0 x0 x1=some y):
  Calls prog 123 #[v0,(iv x1)] w (Res W G H (λ_ Ho v=>Ho=[]∧v=(.bool y))):=by
 refine Ap (args:=[v0,(iv x1)]) (N:=33) [.tmp 4] func123 Z Z (lb Z) Z λa f=> ?_
 unfold D.a0 at hd
 refine Ae ?_
 refine Ac f Z λa f=>Aa (Ag (Ae ?_))
 refine Ab f Z λa f=>AZ underlying33 f Z Z h0 λa f=>Ab f Z λa f=>Aa ?_
 have⟨aa,ab,hd⟩:=bind_some hd
 refine AM (λa w=>∃q_181':Unit,aa= .inl q_181'∧∃(ac:GH),GLe G ac∧Fr a 33 []∧Mem W ac w (H)) ?_ ?_
 ·refine Ak ?_
  refine AI (λad a w=>∃ae:Int,ae=ad∧∃(af:GH),GLe G af∧Fr a 33 [(0,v0),(1,(iv x1)),(7,v0),(8,(iv (x0.length:Int))),(9,(iv ae))]∧Mem W af w (H)) ab ⟨_,Z,_,gr,f.k Z,m⟩ ?_
  clear ab f m
  rintro ad ag ah ai a w ⟨ae,rfl,af,aj,f,m⟩
  have h0:=rd1 aj h0
  refine Ae ?_
  refine Aj f Z Z AP λa f=>Aa (Ag ?_)
  rcases Af ah with⟨ak,ah⟩|⟨ak,ah⟩
  ·refine Al f Z ak ?_
   refine An ?_
   refine Ag (Ak (Ae ?_))
   refine Ab f Z λa f=> ?_
   have⟨al,am,ah⟩:=bind_some ah
   refine Be T33 f Z Z Z h0 am λan ao a ap aq f=> ?_
   subst aq
   refine AK m Pl2 f Z Z ap λa f=>Ac f Z λa f=>Ac f Z λa f=>Az ?_
   refine Ab f Z λa f=>Ab f Z λa f=>Aj f Z Z Ct λa f=> ?_
   have⟨ar,au,ah⟩:=bind_some ah
   refine AR f Z call136 (Wk.i1 m au) λav w aw m a f=> ?_
   have h0:=rd1 aw h0
   refine l_o f (Bc (f.e Z)) λa f=>Ab f Z λa f=> ?_
   have⟨ax,ay,ah⟩:=bind_some ah
   refine Bh 12 (λa w=>∃az,GLe av az∧Mem W az w (H)∧Fr a 33 [(0,v0),(1,(iv x1)),(5,(iv ae)),(6,(iv al)),(7,v0),(8,(iv (x0.length:Int))),(9,(iv ae)),(14,(iv al)),(15,(iv x1)),(16,(iv (i64.wrap (x1-1)))),(17,(.bool ar)),(18,(.bool (!ar))),(19,(.bool (!ar))),(31,(.bool ax))]) ?_ ?_
   ·rcases Af ay with⟨aA,ay⟩|⟨aA,ay⟩
    ·refine Au f aA λa f=> ?_
     refine Au f aA λa f=>Au f aA λa f=>DX f Z Z Z λa f=>DX f Z Z Z λa f=>DX f Z Z Z λa f=>DX f Z Z Z λa f=>DX f Z Z Z λa f=>DX f Z Z Z λa f=>DX f Z Z Z λa f=>Au f aA λa f=>l_o f (AW (f.e Z) aA (f.e Z)) λa f=> ?_
     obtain rfl:=sj ay
     exact⟨_,gr,m,f.k Z⟩
    ·refine As f aA ?_
     refine Ab f Z λa f=>As f aA ?_
     refine Aj f Z Z Cu λa f=>As f aA ?_
     refine Ab f Z λa f=> ?_
     have⟨aB,aC,ay⟩:=bind_some ay
     refine Bh 8 (λa w=>∃aD,GLe av aD∧Mem W aD w (H)∧Fr a 33 [(0,v0),(1,(iv x1)),(5,(iv ae)),(6,(iv al)),(7,v0),(8,(iv (x0.length:Int))),(9,(iv ae)),(14,(iv al)),(15,(iv x1)),(16,(iv (i64.wrap (x1-1)))),(17,(.bool ar)),(18,(.bool (!ar))),(19,(.bool (!ar))),(20,(iv ae)),(21,(.bool (decide ((0:Int)<ae)))),(22,(.bool (decide ((0:Int)<ae)))),(30,(.bool aB))]) ?_ ?_
     ·rcases Af aC with⟨aE,aC⟩|⟨aE,aC⟩
      ·refine As f aE ?_
       refine Ab f Z λa f=>As f aE ?_
       refine Ab f Z λa f=>As f aE ?_
       refine Aj f Z Z Ct λa f=>As f aE ?_
       have⟨aF,aG,aC⟩:=bind_some aC
       refine Be T33 f Z Z Z h0 aG λaH aI a aJ aK f=> ?_
       subst aK
       refine As f aE ?_
       refine AK m Pl2 f Z Z aJ λa f=>As f aE ?_
       refine Ab f Z λa f=>As f aE ?_
       refine Aj f Z Z Dv λa f=>As f aA ?_
       refine l_o f (AW (f.e Z) aE (f.e Z)) λa f=> ?_
       obtain rfl:=sj aC
       exact⟨_,gr,m,f.k Z⟩
      ·refine Au f aE λa f=> ?_
       refine Au f aE λa f=>Au f aE λa f=>Au f aE λa f=>Au f aE λa f=>Au f aE λa f=>Au f aE λa f=>As f aA ?_
       refine l_o f (AX (f.e Z) aE (f.e Z)) λa f=> ?_
       obtain rfl:=sj aC
       exact⟨_,gr,m,f.k Z⟩
     ·rintro a w ⟨aD,aL,m,f⟩
      refine l_o f (AX (f.e Z) aA (f.e Z)) λa f=> ?_
      obtain rfl:=sj ay
      exact⟨_,aL,m,f.k Z⟩
   ·rintro a w ⟨az,aM,m,f⟩
    refine Aa ?_
    rcases Af ah with⟨aN,ah⟩|⟨aN,ah⟩
    ·refine Al f Z aN ?_
     refine Ae ?_
     refine Ac f Z λa f=>Aa ?_
     refine Ao ?_
     obtain rfl:=sj ah
     obtain rfl:=ai _ rfl
     obtain rfl:=sj hd
     exact⟨[(.bool false)],f.g Z,f.d,_,[],(gt aj (gt aw aM)),m,Z,Z⟩
    ·refine Ai f Z aN ?_
     refine An ?_
     refine Ah ?_
     refine Aj f Z Z Ay λa f=>Ab f Z λa f=>Aa ?_
     obtain rfl:=sj ah
     exact⟨_,Z,_,Z,_,(gt aj (gt aw aM)),f.k Z,m⟩
  ·refine Ai f Z ak ?_
   refine AG Z ?_
   obtain rfl:=sj ah
   obtain rfl:=ai _ rfl
   exact⟨_,Z,_,aj,f.weak trivial,m⟩
 ·rintro a w ⟨_,rfl,ac,aO,f,m⟩
  refine Ae ?_
  refine Ac f Z λa f=>Aa ?_
  refine Ao ?_
  obtain rfl:=sj hd
  exact⟨[(.bool true)],f.g Z,f.d,_,[],aO,m,Z,Z⟩
theorem Wk.F {aa:Value}{ab:LL}(m:Mem W G w (H))(ac:R2 G aa ab){y:Bool}(hd:D.F ab=some y):
  Calls prog 54 #[(.agg #[aa])] w (Res W G H (λ_ Ho v=>Ho=[]∧v=(.bool y))):=by
 refine Ap (args:=[(.agg #[aa])]) (N:=61) [.tmp 2] func54 Z Z (lb Z) Z λa f=> ?_
 unfold D.F at hd
 refine Ae ?_
 refine A8 (cs:=[aa]) m f Z Z Z λad w a m f=>Ac f Z λa f=>Az ?_
 refine BQ underlying26 Z sizeOf24 f Z λa f=>AV 0 0 m BH f Z Z Z Z λa f=>AZ underlying24 f Z Z ac λa f=>Ac f Z λa f=>Aa (Ag (Ae ?_))
 refine Ab f Z λa f=>Aj f Z Z AP λa f=>Ab f Z λa f=> ?_
 refine Bh 3 (λa w=>∃ae,GLe G ae∧Mem W ae w (ib ad 26 [aa]::H)∧Fr a 61 [(0,(.agg #[aa])),(1,(pb ad)),(3,(iv (ab.length:Int))),(13,(iv (ab.length:Int))),(14,(.bool (decide ((ab.length:Int)<1)))),(15,(.bool (decide ((ab.length:Int)<1)))),(18,(.bool ((decide ((ab.length:Int)<1))||(decide ((16:Int)<(ab.length:Int))))))]) ?_ ?_
 ·rcases Bool.eq_false_or_eq_true (decide ((ab.length:Int)<1)) with af|af
  ·refine Au f af λa f=> ?_
   refine Au f af λa f=>l_o f (AW (f.e Z) af (f.e Z)) λa f=> ?_
   exact⟨_,gr,m,f.weak ⟨Z,Z,Z,Z,Z,Z,by rw[af];rfl,trivial⟩⟩
  ·refine As f af ?_
   refine Ab f Z λa f=>As f af ?_
   refine Aj f Z Z Cu λa f=>l_o f (AX (f.e Z) af (f.e Z)) λa f=> ?_
   exact⟨_,gr,m,f.weak ⟨Z,Z,Z,Z,Z,Z,by rw[af];rfl,trivial⟩⟩
 ·rintro a w ⟨ae,ag,m,f⟩
  have ac:=rd2 ag ac
  refine Aa ?_
  rcases Af hd with⟨ah,hd⟩|⟨ah,hd⟩
  ·refine Al f Z ah ?_
   refine Ae ?_
   refine Ac f Z λa f=>Aa ?_
   refine Ao ?_
   have m:Mem W ae w H:=Mem.drop (H':=[ib ad 26 [aa]]) m
   obtain rfl:=sj hd
   exact⟨[(.bool false)],f.g Z,f.d,_,[],ag,m,Z,Z⟩
  ·refine Ai f Z ah ?_
   refine An ?_
   refine Ag (Ae ?_)
   refine BQ underlying26 Z sizeOf24 f Z λa f=>AV 0 0 m BH f Z Z Z Z λa f=>AZ underlying24 f Z Z ac λa f=>Ab f Z λa f=>Aa ?_
   have⟨ai,aj,hd⟩:=bind_some hd
   refine AM (λa w=>∃q_91':Unit,ai= .inl q_91'∧∃(ak:GH),GLe ae ak∧Fr a 61 [(1,(pb ad))]∧Mem W ak w (ib ad 26 [aa]::H)) ?_ ?_
   ·refine Ak ?_
    refine AI (λal a w=>∃am:Int,am=al∧∃(an:GH),GLe ae an∧Fr a 61 [(1,(pb ad)),(3,(iv (ab.length:Int))),(20,aa),(21,(iv (ab.length:Int))),(22,(iv am))]∧Mem W an w (ib ad 26 [aa]::H)) aj ⟨_,Z,_,gr,f.k Z,m⟩ ?_
    clear aj f m
    rintro al ao ap aq a w ⟨am,rfl,an,ar,f,m⟩
    have ac:=rd2 ar ac
    refine Ae ?_
    refine Aj f Z Z AP λa f=>Aa (Ag ?_)
    rcases Af ap with⟨au,ap⟩|⟨au,ap⟩
    ·refine Al f Z au ?_
     refine An ?_
     refine Ag (Ak (Ae ?_))
     refine Ab f Z λa f=> ?_
     have⟨av,aw,ap⟩:=bind_some ap
     refine Be T24 f Z Z Z ac aw λax ay a az aA f=>AK m Br f Z Z az λa f=>Ac f Z λa f=>Ac f Z λa f=>Az ?_
     refine Ab f Z λa f=>Ab f Z λa f=> ?_
     have⟨aB,aC,ap⟩:=bind_some ap
     refine AR f Z call123 (Wk.a0 m aA aC) λaD w aE m a f=> ?_
     have aA:=rd1 aE aA
     refine l_o f (Bc (f.e Z)) λa f=>Ab f Z λa f=> ?_
     have⟨aF,aG,ap⟩:=bind_some ap
     refine Bh 4 (λa w=>∃aH,GLe aD aH∧Mem W aH w (ib ad 26 [aa]::H)∧Fr a 61 [(1,(pb ad)),(3,(iv (ab.length:Int))),(4,(iv am)),(5,ay),(20,aa),(21,(iv (ab.length:Int))),(22,(iv am)),(27,ay),(28,(iv (ab.length:Int))),(29,(.bool aB)),(30,(.bool (!aB))),(31,(.bool (!aB))),(35,(.bool aF))]) ?_ ?_
     ·rcases Af aG with⟨aI,aG⟩|⟨aI,aG⟩
      ·refine Au f aI λa f=> ?_
       refine Au f aI λa f=>Au f aI λa f=>l_o f (AW (f.e Z) aI (f.e Z)) λa f=> ?_
       obtain rfl:=sj aG
       exact⟨_,gr,m,f.k Z⟩
      ·refine As f aI ?_
       refine Ab f Z λa f=>As f aI ?_
       refine Ab f Z λa f=>As f aI ?_
       have⟨aJ,aK,aG⟩:=bind_some aG
       refine AR f Z call175 (Wk.l0 m aA aK) λaL w aM m a f=>l_o f (AX (f.e Z) aI (f.e Z)) λa f=> ?_
       obtain rfl:=sj aG
       exact⟨_,aM,m,f.k Z⟩
     ·rintro a w ⟨aH,aN,m,f⟩
      refine Aa ?_
      rcases Af ap with⟨aO,ap⟩|⟨aO,ap⟩
      ·refine Al f Z aO ?_
       refine Ae ?_
       refine Ac f Z λa f=>Aa ?_
       refine Ao ?_
       have m:Mem W aH w H:=Mem.drop (H':=[ib ad 26 [aa]]) m
       obtain rfl:=sj ap
       obtain rfl:=aq _ rfl
       obtain rfl:=sj hd
       exact⟨[(.bool false)],f.g Z,f.d,_,[],(gt ag (gt ar (gt aE aN))),m,Z,Z⟩
      ·refine Ai f Z aO ?_
       refine An ?_
       refine Ah ?_
       refine Aj f Z Z Ay λa f=>Ab f Z λa f=>Aa ?_
       obtain rfl:=sj ap
       exact⟨_,Z,_,Z,_,(gt ar (gt aE aN)),f.k Z,m⟩
    ·refine Ai f Z au ?_
     refine AG Z ?_
     obtain rfl:=sj ap
     obtain rfl:=aq _ rfl
     exact⟨_,Z,_,ar,f.k Z,m⟩
   ·rintro a w ⟨_,rfl,ak,aP,f,m⟩
    have ac:=rd2 aP ac
    refine Ag (Ae ?_)
    refine BQ underlying26 Z sizeOf24 f Z λa f=>AV 0 0 m BH f Z Z Z Z λa f=>AZ underlying24 f Z Z ac λa f=>Ab f Z λa f=>Aa ?_
    have⟨aQ,aR,hd⟩:=bind_some hd
    refine AM (λa w=>∃q_394':Unit,aQ= .inl q_394'∧∃(aS:GH),GLe ak aS∧Fr a 61 []∧Mem W aS w (H)) ?_ ?_
    ·refine Ak ?_
     refine AI (λaT a w=>∃aU:Int,aU=aT∧∃(aV:GH),GLe ak aV∧Fr a 61 [(1,(pb ad)),(38,aa),(39,(iv (ab.length:Int))),(40,(iv aU))]∧Mem W aV w (ib ad 26 [aa]::H)) aR ⟨_,Z,_,gr,f.k Z,m⟩ ?_
     clear aR f m
     rintro aT aW aX aY a w ⟨aU,rfl,aV,aZ,f,m⟩
     have ac:=rd2 aZ ac
     refine Ae ?_
     refine Aj f Z Z AP λa f=>Aa (Ag ?_)
     rcases Af aX with⟨a0,aX⟩|⟨a0,aX⟩
     ·refine Al f Z a0 ?_
      refine An ?_
      refine Ag (Ak (Ae ?_))
      refine Ab f Z λa f=> ?_
      have⟨a1,a2,aX⟩:=bind_some aX
      refine Be T24 f Z Z Z ac a2 λa3 a4 a a5 a6 f=>AK m Br f Z Z a5 λa f=>Ac f Z λa f=>Ac f Z λa f=>Az ?_
      refine Ab f Z λa f=>AZ underlying33 f Z Z a6 λa f=>Ab f Z λa f=>Aa ?_
      have⟨a7,a8,aX⟩:=bind_some aX
      refine AM (λa w=>∃q_560':Unit,a7= .inl q_560'∧∃(a9:GH),GLe aV a9∧Fr a 61 [(1,(pb ad)),(38,aa),(39,(iv (ab.length:Int))),(40,(iv aU))]∧Mem W a9 w (ib ad 26 [aa]::H)) ?_ ?_
      ·refine Ak ?_
       refine AI (λba a w=>∃bb:Int,bb=ba∧∃(bc:GH),GLe aV bc∧Fr a 61 [(1,(pb ad)),(6,(iv aU)),(38,aa),(39,(iv (ab.length:Int))),(40,(iv aU)),(45,a4),(46,(iv (a1.length:Int))),(47,(iv bb))]∧Mem W bc w (ib ad 26 [aa]::H)) a8 ⟨_,Z,_,gr,f.k Z,m⟩ ?_
       clear a8 f m
       rintro ba bd be bf a w ⟨bb,rfl,bc,bg,f,m⟩
       have ac:=rd2 bg ac
       have a6:=rd1 bg a6
       refine Ae ?_
       refine Aj f Z Z AP λa f=>Aa (Ag ?_)
       rcases Af be with⟨bh,be⟩|⟨bh,be⟩
       ·refine Al f Z bh ?_
        refine An ?_
        refine Ag (Ak (Ae ?_))
        have⟨bi,bj,be⟩:=bind_some be
        refine Be T33 f Z Z Z a6 bj λbk bl a bm bn f=> ?_
        subst bn
        refine AK m Pl2 f Z Z bm λa f=>Ac f Z λa f=>Az ?_
        refine BQ underlying26 Z sizeOf24 f Z λa f=>AV 0 0 m BH f Z Z Z Z λa f=>Ab f Z λa f=> ?_
        have⟨bo,bp,be⟩:=bind_some be
        refine Be T24 f Z Z Z ac bp λbq br a bs bt f=>AK m Br f Z Z bs λa f=>Ab f Z λa f=> ?_
        have⟨bu,bv,be⟩:=bind_some be
        refine AR f Z call175 (Wk.l0 m bt bv) λbw w bx m a f=>l_o f (Bc (f.e Z)) λa f=>Aa ?_
        rcases Af be with⟨bz,be⟩|⟨bz,be⟩
        ·refine Al f Z bz ?_
         refine Ae ?_
         refine Ac f Z λa f=>Aa ?_
         refine Ao ?_
         have m:Mem W bw w H:=Mem.drop (H':=[ib ad 26 [aa]]) m
         obtain rfl:=sj be
         obtain rfl:=bf _ rfl
         obtain rfl:=sj aX
         obtain rfl:=aY _ rfl
         obtain rfl:=sj hd
         exact⟨[(.bool false)],f.g Z,f.d,_,[],(gt ag (gt aP (gt aZ (gt bg bx)))),m,Z,Z⟩
        ·refine Ai f Z bz ?_
         refine An ?_
         refine Ah ?_
         refine Aj f Z Z Ay λa f=>Ab f Z λa f=>Aa ?_
         obtain rfl:=sj be
         exact⟨_,Z,_,Z,_,(gt bg bx),f.k Z,m⟩
       ·refine Ai f Z bh ?_
        refine AG Z ?_
        obtain rfl:=sj be
        obtain rfl:=bf _ rfl
        exact⟨_,Z,_,bg,f.k Z,m⟩
      ·rintro a w ⟨_,rfl,a9,bA,f,m⟩
       refine Ah ?_
       refine Aj f Z Z Ay λa f=>Ab f Z λa f=>Aa ?_
       obtain rfl:=sj aX
       exact⟨_,Z,_,Z,_,(gt aZ bA),f.k Z,m⟩
     ·refine Ai f Z a0 ?_
      refine AG Z ?_
      have m:Mem W aV w H:=Mem.drop (H':=[ib ad 26 [aa]]) m
      obtain rfl:=sj aX
      obtain rfl:=aY _ rfl
      exact⟨_,Z,_,aZ,f.weak trivial,m⟩
    ·rintro a w ⟨_,rfl,aS,bB,f,m⟩
     refine Ae ?_
     refine Ac f Z λa f=>Aa ?_
     refine Ao ?_
     obtain rfl:=sj hd
     exact⟨[(.bool true)],f.g Z,f.d,_,[],(gt ag (gt aP bB)),m,Z,Z⟩
theorem Wk.h {x0:Int}(m:Mem W G w (H)){y:Int}(hd:D.h x0=some y):
  Calls prog 99 #[(iv x0)] w (Res W G H (λ_ Ho v=>Ho=[]∧v=(.int .u32 y))):=by
 refine Ap (args:=[(iv x0)]) (N:=5) [.tmp 2] func99 Z Z (lb Z) Z λa f=> ?_
 unfold D.h at hd
 refine Ae ?_
 refine Ac f Z λa f=>Az ?_
 refine Ab f Z λa f=> ?_
 obtain⟨aa,hd⟩:=Ea hd
 refine l_o f (r_shl (f.e Z) (f.e Z) aa) λa f=>Ac f Z λa f=>Aa ?_
 refine Ao ?_
 obtain rfl:=sj hd
 exact⟨[(.int .u32 (ishl .u32 1 x0))],f.g Z,f.d,_,[],gr,m,Z,Z⟩
theorem Wk.g {v0:Value}{x0:LI}(m:Mem W G w (H))(h0:R1 G v0 x0){y:Int}(hd:D.g x0=some y):
  Calls prog 58 #[v0] w (Res W G H (λ_ Ho v=>Ho=[]∧v=(.int .u32 y))):=by
 refine Ap (args:=[v0]) (N:=18) [.tmp 2] func58 Z Z (lb Z) Z λa f=> ?_
 unfold D.g at hd
 refine Ae ?_
 refine Ac f Z λa f=>Az ?_
 refine Ac f Z λa f=>Aa (Ag (Ae ?_))
 refine Ab f Z λa f=>AZ underlying33 f Z Z h0 λa f=>Ab f Z λa f=>Aa ?_
 have⟨aa,ab,hd⟩:=bind_some hd
 refine AM (λa w=>∃ac:Int,ac=aa∧∃(ad:GH),GLe G ad∧Fr a 18 [(3,(.int .u32 ac))]∧Mem W ad w (H)) ?_ ?_
 ·refine Ak ?_
  refine AI (λae a w=>∃af:Int,∃ag:Int,(af,ag)=ae∧∃(ah:GH),GLe G ah∧Fr a 18 [(3,(.int .u32 af)),(6,v0),(7,(iv (x0.length:Int))),(8,(iv ag))]∧Mem W ah w (H)) ab ⟨_,_,Z,_,gr,f.k Z,m⟩ ?_
  clear ab f m
  rintro ae ai aj ak a w ⟨af,ag,rfl,ah,al,f,m⟩
  have h0:=rd1 al h0
  refine Ae ?_
  refine Aj f Z Z AP λa f=>Aa (Ag ?_)
  rcases Af aj with⟨am,aj⟩|⟨am,aj⟩
  ·refine Al f Z am ?_
   refine An ?_
   refine Ag (Ak (Ae ?_))
   have⟨an,ao,aj⟩:=bind_some aj
   refine Be T33 f Z Z Z h0 ao λap aq a ar au f=> ?_
   subst au
   refine AK m Pl2 f Z Z ar λa f=>Ac f Z λa f=>Aa (Ah ?_)
   refine Ab f Z λa f=>Ab f Z λa f=> ?_
   have⟨av,aw,aj⟩:=bind_some aj
   refine AR f Z call99 (Wk.h m aw) λax w ay m a f=>Aj f Z Z b_or λa f=>Ac f Z λa f=>Aa (Ah ?_)
   refine Aj f Z Z Ay λa f=>Ab f Z λa f=>Aa ?_
   obtain rfl:=sj aj
   exact⟨_,Z,_,_,Z,_,(gt al ay),f.k Z,m⟩
  ·refine Ai f Z am ?_
   refine AG Z ?_
   obtain rfl:=sj aj
   obtain rfl:=ak _ rfl
   exact⟨_,Z,_,al,f.k Z,m⟩
 ·rintro a w ⟨ac,rfl,ad,az,f,m⟩
  refine Ae ?_
  refine Ab f Z λa f=>Ac f Z λa f=>Aa ?_
  refine Ao ?_
  obtain rfl:=sj hd
  exact⟨[(.int .u32 ac)],f.g Z,f.d,_,[],az,m,Z,Z⟩
theorem Wk.t {aa:Value}{ab:LL}(m:Mem W G w (H))(ac:R2 G aa ab){y:(LI)}(hd:D.t ab=some y):
  Calls prog 55 #[(.agg #[aa])] w (Res W G H (λG' Ho v=>∃r0:Value,∃i0:Itm,Ho=[i0]∧r0=v∧Ow (RI .u32) 80 G' i0 r0 y)):=by
 refine Ap (args:=[(.agg #[aa])]) (N:=21) [.tmp 2] func55 Z Z (lb Z) Z λa f=> ?_
 unfold D.t at hd
 refine Ae ?_
 refine A8 (cs:=[aa]) m f Z Z Z λad w a m f=>Ac f Z λa f=>Az ?_
 refine AF (R:=(RI .u32)) (xs:=([]:LI)) (RI.one _) m T76 f Z Z Z (by decide) (All2.nil _) λae af w a m ag f=>Ac f Z λa f=>Aa (Ag (Ae ?_))
 refine BQ underlying26 Z sizeOf24 f Z λa f=>AV 1 0 m BH f Z Z Z Z λa f=>AZ underlying24 f Z Z ac λa f=>Ab f Z λa f=>Aa ?_
 have⟨ah,ai,hd⟩:=bind_some hd
 refine AM (λa w=>∃aj:LI,aj=ah∧∃(ak:GH) (al:Value) (am:Itm),GLe G ak∧Fr a 21 [(3,al)]∧Mem W ak w (am::H)∧Ow (RI .u32) 80 ak am al aj) ?_ ?_
 ·refine Ak ?_
  have m:=m.eraseAt 1
  refine AI (λan a w=>∃ao:LI,∃ap:Int,(ao,ap)=an∧∃(aq:GH) (ar:Value) (au:Itm),GLe G aq∧Fr a 21 [(3,ar),(8,aa),(9,(iv (ab.length:Int))),(10,(iv ap))]∧Mem W aq w (au::H)∧Ow (RI .u32) 80 aq au ar ao) ai ⟨_,_,Z,_,af,ae,gr,f.k Z,m,ag⟩ ?_
  clear ai f m
  rintro an av aw ax a w ⟨ao,ap,rfl,aq,ar,au,ay,f,m,az⟩
  have ac:=rd2 ay ac
  refine Ae ?_
  refine Aj f Z Z AP λa f=>Aa (Ag ?_)
  rcases Af aw with⟨aA,aw⟩|⟨aA,aw⟩
  ·refine Al f Z aA ?_
   refine An ?_
   refine Ag (Ak (Ae ?_))
   have⟨aB,aC,aw⟩:=bind_some aw
   refine Be T24 f Z Z Z ac aC λaD aE a aF aG f=>AK m Br f Z Z aF λa f=>Ac f Z λa f=>Aa (Ah ?_)
   refine Ab f Z λa f=>Ab f Z λa f=> ?_
   have⟨aH,aI,aw⟩:=bind_some aw
   refine AR f Z call58 (Wk.g m aG aI) λaJ w aK m a f=> ?_
   have az:=od1 aK az
   refine AF (R:=(RI .u32)) (xs:=([aH]:LI)) (RI.one _) m T76 f Z Z Z (by decide) (All2.cons Z (All2.nil _)) λaL aM w a m aN f=> ?_
   have⟨aO,aP,aw⟩:=bind_some aw
   refine AT (RI.one _) 1 m az Z T76 Z (by decide) f Z Z Z (Ow.src (j:=0) aN m Z) aP λaQ aR w a m aS f=>Ac f Z λa f=>Aa (Ah ?_)
   refine Aj f Z Z Ay λa f=>Ab f Z λa f=>Aa ?_
   have m:=m.fr 1
   have m:=m.eraseAt 1
   obtain rfl:=sj aw
   exact⟨_,Z,_,_,Z,_,aR,aQ,(gt ay aK),f.k Z,m,aS⟩
  ·refine Ai f Z aA ?_
   refine AG Z ?_
   obtain rfl:=sj aw
   obtain rfl:=ax _ rfl
   exact⟨_,Z,_,ar,au,ay,f.k Z,m,az⟩
 ·rintro a w ⟨aj,rfl,ak,al,am,aT,f,m,aU⟩
  refine Ae ?_
  refine Ab f Z λa f=>Ac f Z λa f=>Aa ?_
  refine Ao ?_
  obtain rfl:=sj hd
  exact⟨[al],f.g Z,f.d,_,[am],aT,m,_,_,Z,Z,aU⟩
theorem Wk.O {aa v1:Value}{ab:LL}{x1:LI}(m:Mem W G w (H))(ac:R2 G aa ab)(h1:R1 G v1 x1){y:Bool}(hd:D.O ab x1=some y):
  Calls prog 82 #[(.agg #[aa]),v1] w (Res W G H (λ_ Ho v=>Ho=[]∧v=(.bool y))):=by
 refine Ap (args:=[(.agg #[aa]),v1]) (N:=14) [.tmp 4] func82 Z Z (lb Z) Z λa f=> ?_
 unfold D.O at hd
 refine Ae ?_
 refine A8 (cs:=[aa]) m f Z Z Z λad w a m f=>Ac f Z λa f=>Az ?_
 refine Aw 0 0 (ds:=[aa]) m AE f Z Z Z Z Z λa f=> ?_
 have⟨ae,af,hd⟩:=bind_some hd
 refine AR f Z call54 (Wk.F m ac af) λag w ah m a f=> ?_
 have ac:=rd2 ah ac
 have h1:=rd1 ah h1
 refine Ab f Z λa f=> ?_
 have⟨ai,aj,hd⟩:=bind_some hd
 refine Bh 6 (λa w=>∃ak,GLe ag ak∧Mem W ak w (ib ad 26 [aa]::H)∧Fr a 14 [(0,(.agg #[aa])),(1,v1),(2,(pb ad)),(5,(.agg #[aa])),(6,(.bool ae)),(7,(.bool ae)),(13,(.bool ai))]) ?_ ?_
 ·rcases Af aj with⟨al,aj⟩|⟨al,aj⟩
  ·refine As f al ?_
   refine Ab f Z λa f=>As f al ?_
   refine BQ underlying26 Z sizeOf24 f Z λa f=>As f al ?_
   refine AV 0 0 m BH f Z Z Z Z λa f=>As f al ?_
   refine AZ underlying24 f Z Z ac λa f=>As f al ?_
   have⟨am,an,aj⟩:=bind_some aj
   refine AR f Z call123 (Wk.a0 m h1 an) λao w ap m a f=>l_o f (AW (f.e Z) al (f.e Z)) λa f=> ?_
   obtain rfl:=sj aj
   exact⟨_,ap,m,f.k Z⟩
  ·refine Au f al λa f=> ?_
   refine Au f al λa f=>Au f al λa f=>Au f al λa f=>Au f al λa f=>l_o f (AX (f.e Z) al (f.e Z)) λa f=> ?_
   obtain rfl:=sj aj
   exact⟨_,gr,m,f.k Z⟩
 ·rintro a w ⟨ak,aq,m,f⟩
  refine Ac f Z λa f=>Aa ?_
  refine Ao ?_
  have m:Mem W ak w H:=Mem.drop (H':=[ib ad 26 [aa]]) m
  obtain rfl:=sj hd
  exact⟨[(.bool ai)],f.g Z,f.d,_,[],(gt ah aq),m,Z,Z⟩
theorem Wk.C {x0:Int}(hW:BJ W)(m:Mem W G w (H)){y:Int}(hd:D.C x0=some y):
  Calls prog 165 #[(.int .u32 x0)] w (Res W G H (λ_ Ho v=>Ho=[]∧v=(iv y))):=by
 refine Ap (args:=[(.int .u32 x0)]) (N:=5) [.tmp 2] func165 Z Z (lb Z) Z λa f=> ?_
 unfold D.C at hd
 refine Ae ?_
 refine Ac f Z λa f=>Az ?_
 refine Ab f Z λa f=> ?_
 have⟨aa,ab,hd⟩:=bind_some hd
 refine AR f Z call243 (Wk.s1 hW m ab) λac w ad m a f=>Ac f Z λa f=>Aa ?_
 refine Ao ?_
 obtain rfl:=sj hd
 exact⟨[(iv aa)],f.g Z,f.d,_,[],ad,m,Z,Z⟩
theorem Wk.q {x0:Int}(hW:BJ W)(m:Mem W G w (H)){y:(LI)}(hd:D.q x0=some y):
  Calls prog 108 #[(.int .u32 x0)] w (Res W G H (λG' Ho v=>∃r0:Value,∃i0:Itm,Ho=[i0]∧r0=v∧Ow R0 3 G' i0 r0 y)):=by
 refine Ap (args:=[(.int .u32 x0)]) (N:=17) [.tmp 2] func108 Z Z (lb Z) Z λa f=> ?_
 unfold D.q at hd
 refine Ae ?_
 refine Ac f Z λa f=>Az ?_
 refine AF (R:=R0) (xs:=([]:LI)) (RI.one _) m T133 f Z Z Z (by decide) (All2.nil _) λaa ab w a m ac f=>Ac f Z λa f=>Aa (Ag ?_)
 have⟨ad,ae,hd⟩:=bind_some hd
 refine AM (λa w=>∃af:LI,af=ad∧∃(ag:GH) (ah:Value) (ai:Itm),GLe G ag∧Fr a 17 [(3,ah)]∧Mem W ag w (ai::H)∧Ow R0 3 ag ai ah af) ?_ ?_
 ·refine Ak ?_
  refine AI (λaj a w=>∃ak:Int,∃al:LI,(ak,al)=aj∧∃(am:GH) (an:Value) (ao:Itm),GLe G am∧Fr a 17 [(0,(.int .u32 ak)),(3,an)]∧Mem W am w (ao::H)∧Ow R0 3 am ao an al) ae ⟨_,_,Z,_,ab,aa,gr,f.k Z,m,ac⟩ ?_
  clear ae f m
  rintro aj ap aq ar a w ⟨ak,al,rfl,am,an,ao,au,f,m,av⟩
  refine Ag (Ae ?_)
  refine Ab f Z λa f=>Aj f Z Z Dx λa f=>Aa ?_
  rcases Af aq with⟨aw,aq⟩|⟨aw,aq⟩
  ·refine Al f Z aw ?_
   refine An ?_
   refine Ag (Ak (Ah ?_))
   refine Ab f Z λa f=>Ab f Z λa f=> ?_
   have⟨ax,ay,aq⟩:=bind_some aq
   refine AR f Z call165 (Wk.C hW m ay) λaz w aA m a f=> ?_
   have av:=od1 aA av
   refine AF (R:=R0) (xs:=([ax]:LI)) (RI.one _) m T133 f Z Z Z (by decide) (All2.cons Z (All2.nil _)) λaB aC w a m aD f=> ?_
   have⟨aE,aF,aq⟩:=bind_some aq
   refine AT (RI.one _) 1 m av Z T133 Z (by decide) f Z Z Z (Ow.src (j:=0) aD m Z) aF λaG aH w a m aI f=>Ac f Z λa f=>Aa (Ah ?_)
   refine Ab f Z λa f=>Ab f Z λa f=>Aj f Z Z Ct λa f=>Aj f Z Z CY λa f=>Ac f Z λa f=>Aa ?_
   have m:=m.fr 1
   have m:=m.eraseAt 1
   obtain rfl:=sj aq
   exact⟨_,Z,_,_,Z,_,aH,aG,(gt au aA),f.k Z,m,aI⟩
  ·refine Ai f Z aw ?_
   refine AG Z ?_
   obtain rfl:=sj aq
   obtain rfl:=ar _ rfl
   exact⟨_,Z,_,an,ao,au,f.k Z,m,av⟩
 ·rintro a w ⟨af,rfl,ag,ah,ai,aJ,f,m,aK⟩
  refine Ae ?_
  refine Ab f Z λa f=>Ac f Z λa f=>Aa ?_
  refine Ao ?_
  obtain rfl:=sj hd
  exact⟨[ah],f.g Z,f.d,_,[ai],aJ,m,_,_,Z,Z,aK⟩
theorem Wk.J {v0:Value}{x0:LI}{x1 x2:Int}(hW:BJ W)(m:Mem W G w (H))(h0:RSl (RI .u32) G v0 x0){y:Int}(hd:D.J x0 x1 x2=some y):
  Calls prog 185 #[v0,(iv x1),(.int .u32 x2)] w (Res W G H (λ_ Ho v=>Ho=[]∧v=(.int .u32 y))):=by
 refine Ap (args:=[v0,(iv x1),(.int .u32 x2)]) (N:=35) [.tmp 6] func185 Z Z (lb Z) Z λa f=> ?_
 unfold D.J at hd
 refine Ae ?_
 refine Ac f Z λa f=>Az ?_
 refine Ab f Z λa f=> ?_
 have⟨aa,ab,hd⟩:=bind_some hd
 refine AR f Z call99 (Wk.h m ab) λac w ad m a f=> ?_
 have h0:=rd1 ad h0
 refine Ac f Z λa f=>Aa ?_
 have⟨ae,af,hd⟩:=bind_some hd
 refine Ak ?_
 refine AI (λag a w=>∃ah:Int,ah=ag∧∃(ai:GH),GLe ac ai∧Fr a 35 [(0,v0),(2,(.int .u32 x2)),(7,(.int .u32 ah))]∧Mem W ai w (H)) af ⟨_,Z,_,gr,f.k Z,m⟩ ?_
 clear af f m
 rintro ag aj ak al a w ⟨ah,rfl,ai,am,f,m⟩
 have h0:=rd1 am h0
 refine Ak (Ae ?_)
 refine Ab f Z λa f=>Ac f Z λa f=>Aa (Ag (Ae ?_))
 refine Ab f Z λa f=> ?_
 have⟨an,ao,ak⟩:=bind_some ak
 refine AA f Z call108 (Wk.q hW m ao) λap aq ar w au m av a f=> ?_
 obtain⟨aw,ax,rfl,rfl,ay⟩:=av
 have h0:=rd1 au h0
 refine Bz 0 m ay Z underlying133 f Z Z λa f=>Ab f Z λa f=>Aa ?_
 have⟨az,aA,ak⟩:=bind_some ak
 refine AM (λa w=>∃aB:Int,aB=az∧∃(aC:GH),GLe aq aC∧Fr a 35 [(0,v0),(2,(.int .u32 x2)),(7,(.int .u32 ah)),(8,(.int .u32 aB))]∧Mem W aC w (H)) ?_ ?_
 ·refine Ak ?_
  refine AI (λaD a w=>∃aE:Int,∃aF:Int,(aE,aF)=aD∧∃(aG:GH),GLe aq aG∧Fr a 35 [(0,v0),(2,(.int .u32 x2)),(7,(.int .u32 ah)),(8,(.int .u32 aE)),(15,aw),(16,(iv (an.length:Int))),(17,(iv aF))]∧Mem W aG w (ax::H)) aA ⟨_,_,Z,_,gr,f.k Z,m⟩ ?_
  clear aA f m
  rintro aD aH aI aJ a w ⟨aE,aF,rfl,aG,aK,f,m⟩
  have h0:=rd1 aK h0
  have ay:=od1 aK ay
  refine Ae ?_
  refine Aj f Z Z AP λa f=>Aa (Ag ?_)
  rcases Af aI with⟨aL,aI⟩|⟨aL,aI⟩
  ·refine Al f Z aL ?_
   refine An ?_
   refine Ag (Ak (Ae ?_))
   have⟨aM,aN,aI⟩:=bind_some aI
   refine Bj 0 m ay Z T133 f Z Z Z aN λaO a aP f=>Bl 0 m ay Z Pl3 f Z Z aP aN λaQ a aR f=> ?_
   subst aR
   refine Ac f Z λa f=>Aa (Ah ?_)
   refine Ab f Z λa f=>Ab f Z λa f=>Ab f Z λa f=> ?_
   have⟨aS,aT,aI⟩:=bind_some aI
   refine Be T76 f Z Z Z h0 aT λaU aV a aW aX f=> ?_
   subst aX
   refine AK m Pl80 f Z Z aW λa f=>Ab f Z λa f=>Aj f Z Z CY λa f=>Aj f Z Z b_or λa f=>Ac f Z λa f=>Aa (Ah ?_)
   refine Aj f Z Z Ay λa f=>Ab f Z λa f=>Aa ?_
   obtain rfl:=sj aI
   exact⟨_,Z,_,_,Z,_,aK,f.k Z,m⟩
  ·refine Ai f Z aL ?_
   refine AG Z ?_
   have m:Mem W aG w H:=Mem.drop (H':=[ax]) m
   obtain rfl:=sj aI
   obtain rfl:=aJ _ rfl
   exact⟨_,Z,_,aK,f.k Z,m⟩
 ·rintro a w ⟨aB,rfl,aC,aY,f,m⟩
  refine Ag (Ae ?_)
  refine Ab f Z λa f=>Ab f Z λa f=>Aj f Z Z BW λa f=>Aa ?_
  rcases Af ak with⟨aZ,ak⟩|⟨aZ,ak⟩
  ·refine Al f Z aZ ?_
   refine Ae ?_
   refine Ab f Z λa f=>Ac f Z λa f=>Aa ?_
   refine Ao ?_
   obtain rfl:=sj ak
   obtain rfl:=al _ rfl
   obtain rfl:=sj hd
   exact⟨[(.int .u32 ah)],f.g Z,f.d,_,[],(gt ad (gt am (gt au aY))),m,Z,Z⟩
  ·refine Ai f Z aZ ?_
   refine An ?_
   refine Ah ?_
   refine Ab f Z λa f=>Ac f Z λa f=>Aa ?_
   obtain rfl:=sj ak
   exact⟨_,Z,_,Z,_,(gt am (gt au aY)),f.k Z,m⟩
theorem Wk.E0 {v0:Value}{x0:LI}{x1:Int}(hW:BJ W)(m:Mem W G w (H))(h0:RSl (RI .u32) G v0 x0){y:Bool}(hd:D.E0 x0 x1=some y):
  Calls prog 176 #[v0,(.int .u32 x1)] w (Res W G H (λ_ Ho v=>Ho=[]∧v=(.bool y))):=by
 refine Ap (args:=[v0,(.int .u32 x1)]) (N:=16) [.tmp 4] func176 Z Z (lb Z) Z λa f=> ?_
 unfold D.E0 at hd
 refine Ae ?_
 refine Ac f Z λa f=>Az ?_
 refine Ab f Z λa f=>Aj f Z Z Dx λa f=>Ab f Z λa f=> ?_
 have⟨aa,ab,hd⟩:=bind_some hd
 refine Bh 8 (λa w=>∃ac,GLe G ac∧Mem W ac w (H)∧Fr a 16 [(0,v0),(1,(.int .u32 x1)),(5,(.int .u32 x1)),(6,(.bool (x1 !=0))),(7,(.bool (x1 !=0))),(15,(.bool aa))]) ?_ ?_
 ·rcases Af ab with⟨ad,ab⟩|⟨ad,ab⟩
  ·refine As f ad ?_
   refine Ab f Z λa f=>As f ad ?_
   refine Ab f Z λa f=>As f ad ?_
   have⟨ae,af,ab⟩:=bind_some ab
   refine AR f Z call165 (Wk.C hW m af) λag w ah m a f=> ?_
   have h0:=rd1 ah h0
   refine As f ad ?_
   refine Ab f Z λa f=>As f ad ?_
   have⟨ai,aj,ab⟩:=bind_some ab
   refine AR f Z call185 (Wk.J hW m h0 aj) λak w al m a f=>As f ad ?_
   refine Ab f Z λa f=>As f ad ?_
   refine Aj f Z Z BW λa f=>l_o f (AW (f.e Z) ad (f.e Z)) λa f=> ?_
   obtain rfl:=sj ab
   exact⟨_,(gt ah al),m,f.k Z⟩
  ·refine Au f ad λa f=> ?_
   refine Au f ad λa f=>Au f ad λa f=>Au f ad λa f=>Au f ad λa f=>Au f ad λa f=>Au f ad λa f=>l_o f (AX (f.e Z) ad (f.e Z)) λa f=> ?_
   obtain rfl:=sj ab
   exact⟨_,gr,m,f.k Z⟩
 ·rintro a w ⟨ac,am,m,f⟩
  refine Ac f Z λa f=>Aa ?_
  refine Ao ?_
  obtain rfl:=sj hd
  exact⟨[(.bool aa)],f.g Z,f.d,_,[],am,m,Z,Z⟩
theorem Wk.f0 {aa v1:Value}{ab:LL}{x1:LI}(hW:BJ W)(m:Mem W G w (H))(ac:R2 G aa ab)(h1:R1 G v1 x1){y:Bool}(hd:D.f0 ab x1=some y):
  Calls prog 56 #[(.agg #[aa]),v1] w (Res W G H (λ_ Ho v=>Ho=[]∧v=(.bool y))):=by
 refine Ap (args:=[(.agg #[aa]),v1]) (N:=15) [.tmp 4] func56 Z Z (lb Z) Z λa f=> ?_
 unfold D.f0 at hd
 refine Ae ?_
 refine A8 (cs:=[aa]) m f Z Z Z λad w a m f=>Ac f Z λa f=>Az ?_
 refine Aw 0 0 (ds:=[aa]) m AE f Z Z Z Z Z λa f=>Ab f Z λa f=> ?_
 have⟨ae,af,hd⟩:=bind_some hd
 refine AR f Z call82 (Wk.O m ac h1 af) λag w ah m a f=> ?_
 have ac:=rd2 ah ac
 have h1:=rd1 ah h1
 refine Ab f Z λa f=> ?_
 have⟨ai,aj,hd⟩:=bind_some hd
 refine Bh 6 (λa w=>∃ak,GLe ag ak∧Mem W ak w (ib ad 26 [aa]::H)∧Fr a 15 [(0,(.agg #[aa])),(1,v1),(2,(pb ad)),(5,(.agg #[aa])),(6,v1),(7,(.bool ae)),(8,(.bool ae)),(14,(.bool ai))]) ?_ ?_
 ·rcases Af aj with⟨al,aj⟩|⟨al,aj⟩
  ·refine As f al ?_
   refine Aw 0 0 (ds:=[aa]) m AE f Z Z Z Z Z λa f=>As f al ?_
   have⟨am,an,aj⟩:=bind_some aj
   refine AA f Z call55 (Wk.t m ac an) λao ap aq w ar m au a f=> ?_
   obtain⟨av,aw,rfl,rfl,ax⟩:=au
   have h1:=rd1 ar h1
   refine As f al ?_
   refine Ab f Z λa f=>As f al ?_
   have⟨ay,az,aj⟩:=bind_some aj
   refine AR f Z call58 (Wk.g m h1 az) λaA w aB m a f=> ?_
   have ax:=od1 aB ax
   refine As f al ?_
   have⟨aC,aD,aj⟩:=bind_some aj
   refine AA f Z call176 (Ow.lendCall (RI.mono _) 0 ax m Z (λaE aF m aG=>Wk.E0 hW m aG aD) (λ_ _ _ _ h=>h)) λaH aI aJ w aK m aL a f=> ?_
   obtain⟨rfl,rfl⟩:=aL
   refine l_o f (AW (f.e Z) al (f.e Z)) λa f=> ?_
   obtain rfl:=sj aj
   have m:=m.fr 1
   have m:=m.eraseAt 1
   exact⟨_,(gt ar (gt aB aK)),m,f.k Z⟩
  ·refine Au f al λa f=> ?_
   refine Au f al λa f=>Au f al λa f=>Au f al λa f=>Au f al λa f=>l_o f (AX (f.e Z) al (f.e Z)) λa f=> ?_
   obtain rfl:=sj aj
   exact⟨_,gr,m,f.k Z⟩
 ·rintro a w ⟨ak,aM,m,f⟩
  refine Ac f Z λa f=>Aa ?_
  refine Ao ?_
  have m:Mem W ak w H:=Mem.drop (H':=[ib ad 26 [aa]]) m
  obtain rfl:=sj hd
  exact⟨[(.bool ai)],f.g Z,f.d,_,[],(gt ah aM),m,Z,Z⟩
theorem Wk.I {v0:Value}{x0:LI}{x1 x2:Int}(hW:BJ W)(m:Mem W G w (H))(h0:RSl (RI .u32) G v0 x0){y:Bool}(hd:D.I x0 x1 x2=some y):
  Calls prog 57 #[v0,(.int .u32 x1),(.int .u32 x2)] w (Res W G H (λ_ Ho v=>Ho=[]∧v=(.bool y))):=by
 refine Ap (args:=[v0,(.int .u32 x1),(.int .u32 x2)]) (N:=28) [.tmp 6] func57 Z Z (lb Z) Z λa f=> ?_
 unfold D.I at hd
 refine Ae ?_
 refine Ac f Z λa f=>Aa (Ag (Ae ?_))
 refine Ab f Z λa f=>Ab f Z λa f=>Aj f Z Z CY λa f=>Aj f Z Z Dx λa f=>Aa ?_
 rcases Af hd with⟨aa,hd⟩|⟨aa,hd⟩
 ·refine Al f Z aa ?_
  refine Ae ?_
  refine Ac f Z λa f=>Aa ?_
  refine Ao ?_
  obtain rfl:=sj hd
  exact⟨[(.bool true)],f.g Z,f.d,_,[],gr,m,Z,Z⟩
 ·refine Ai f Z aa ?_
  refine An ?_
  refine Ag (Ae ?_)
  refine Ab f Z λa f=> ?_
  have⟨ab,ac,hd⟩:=bind_some hd
  refine AA f Z call108 (Wk.q hW m ac) λad ae af w ag m ah a f=> ?_
  obtain⟨ai,aj,rfl,rfl,ak⟩:=ah
  have h0:=rd1 ag h0
  refine Bz 0 m ak Z underlying133 f Z Z λa f=>Ab f Z λa f=>Aa ?_
  have⟨al,am,hd⟩:=bind_some hd
  refine AM (λa w=>∃q_43':Unit,al= .inl q_43'∧∃(an:GH),GLe ae an∧Fr a 28 []∧Mem W an w (H)) ?_ ?_
  ·refine Ak ?_
   refine AI (λao a w=>∃ap:Int,ap=ao∧∃(aq:GH),GLe ae aq∧Fr a 28 [(0,v0),(2,(.int .u32 x2)),(14,ai),(15,(iv (ab.length:Int))),(16,(iv ap))]∧Mem W aq w (aj::H)) am ⟨_,Z,_,gr,f.k Z,m⟩ ?_
   clear am f m
   rintro ao ar au av a w ⟨ap,rfl,aq,aw,f,m⟩
   have h0:=rd1 aw h0
   have ak:=od1 aw ak
   refine Ae ?_
   refine Aj f Z Z AP λa f=>Aa (Ag ?_)
   rcases Af au with⟨ax,au⟩|⟨ax,au⟩
   ·refine Al f Z ax ?_
    refine An ?_
    refine Ag (Ak (Ae ?_))
    have⟨ay,az,au⟩:=bind_some au
    refine Bj 0 m ak Z T133 f Z Z Z az λaA a aB f=>Bl 0 m ak Z Pl3 f Z Z aB az λaC a aD f=> ?_
    subst aD
    refine Ac f Z λa f=>Az ?_
    refine Ab f Z λa f=>Ab f Z λa f=> ?_
    have⟨aE,aF,au⟩:=bind_some au
    refine Be T76 f Z Z Z h0 aF λaG aH a aI aJ f=> ?_
    subst aJ
    refine AK m Pl80 f Z Z aI λa f=>Ab f Z λa f=>Aj f Z Z CY λa f=>Aj f Z Z Dx λa f=>Aa ?_
    rcases Af au with⟨aK,au⟩|⟨aK,au⟩
    ·refine Al f Z aK ?_
     refine Ae ?_
     refine Ac f Z λa f=>Aa ?_
     refine Ao ?_
     have m:Mem W aq w H:=Mem.drop (H':=[aj]) m
     obtain rfl:=sj au
     obtain rfl:=av _ rfl
     obtain rfl:=sj hd
     exact⟨[(.bool true)],f.g Z,f.d,_,[],(gt ag aw),m,Z,Z⟩
    ·refine Ai f Z aK ?_
     refine An ?_
     refine Ah ?_
     refine Aj f Z Z Ay λa f=>Ab f Z λa f=>Aa ?_
     obtain rfl:=sj au
     exact⟨_,Z,_,Z,_,aw,f.k Z,m⟩
   ·refine Ai f Z ax ?_
    refine AG Z ?_
    have m:Mem W aq w H:=Mem.drop (H':=[aj]) m
    obtain rfl:=sj au
    obtain rfl:=av _ rfl
    exact⟨_,Z,_,aw,f.weak trivial,m⟩
  ·rintro a w ⟨_,rfl,an,aL,f,m⟩
   refine Ae ?_
   refine Ac f Z λa f=>Aa ?_
   refine Ao ?_
   obtain rfl:=sj hd
   exact⟨[(.bool false)],f.g Z,f.d,_,[],(gt ag aL),m,Z,Z⟩
theorem Wk.p {aa v1:Value}{ab x1:LL}(hW:BJ W)(m:Mem W G w (H))(ac:R2 G aa ab)(h1:R2 G v1 x1){y:Bool}(hd:D.p ab x1=some y):
  Calls prog 9 #[(.agg #[aa]),v1] w (Res W G H (λ_ Ho v=>Ho=[]∧v=(.bool y))):=by
 refine Ap (args:=[(.agg #[aa]),v1]) (N:=48) [.tmp 4] func9 Z Z (lb Z) Z λa f=> ?_
 unfold D.p at hd
 refine Ae ?_
 refine A8 (cs:=[aa]) m f Z Z Z λad w a m f=>Ac f Z λa f=>Aa (Ag (Ae ?_))
 refine Aw 0 0 (ds:=[aa]) m AE f Z Z Z Z Z λa f=> ?_
 have⟨ae,af,hd⟩:=bind_some hd
 refine AR f Z call54 (Wk.F m ac af) λag w ah m a f=> ?_
 have ac:=rd2 ah ac
 have h1:=rd2 ah h1
 refine l_o f (Bc (f.e Z)) λa f=>Ab f Z λa f=> ?_
 refine Bh 4 (λa w=>∃ai,GLe ag ai∧Mem W ai w (ib ad 26 [aa]::H)∧Fr a 48 [(0,(.agg #[aa])),(1,v1),(2,(pb ad)),(10,(.agg #[aa])),(11,(.bool ae)),(12,(.bool (!ae))),(13,(.bool (!ae))),(17,(.bool ((!ae)||(decide ((80:Int)<(x1.length:Int))))))]) ?_ ?_
 ·rcases Bool.eq_false_or_eq_true (!ae) with aj|aj
  ·refine Au f aj λa f=> ?_
   refine Au f aj λa f=>Au f aj λa f=>l_o f (AW (f.e Z) aj (f.e Z)) λa f=> ?_
   exact⟨_,gr,m,f.weak ⟨Z,Z,Z,Z,Z,Z,Z,by rw[aj];rfl,trivial⟩⟩
  ·refine As f aj ?_
   refine Ab f Z λa f=>As f aj ?_
   refine AZ underlying24 f Z Z h1 λa f=>As f aj ?_
   refine Aj f Z Z Cu λa f=>l_o f (AX (f.e Z) aj (f.e Z)) λa f=> ?_
   exact⟨_,gr,m,f.weak ⟨Z,Z,Z,Z,Z,Z,Z,by rw[aj];rfl,trivial⟩⟩
 ·rintro a w ⟨ai,ak,m,f⟩
  have ac:=rd2 ak ac
  have h1:=rd2 ak h1
  refine Aa ?_
  rcases Af hd with⟨al,hd⟩|⟨al,hd⟩
  ·refine Al f Z al ?_
   refine Ae ?_
   refine Ac f Z λa f=>Aa ?_
   refine Ao ?_
   have m:Mem W ai w H:=Mem.drop (H':=[ib ad 26 [aa]]) m
   obtain rfl:=sj hd
   exact⟨[(.bool false)],f.g Z,f.d,_,[],(gt ah ak),m,Z,Z⟩
  ·refine Ai f Z al ?_
   refine An ?_
   refine Ae ?_
   refine Aw 0 0 (ds:=[aa]) m AE f Z Z Z Z Z λa f=> ?_
   have⟨am,an,hd⟩:=bind_some hd
   refine AA f Z call55 (Wk.t m ac an) λao ap aq w ar m au a f=> ?_
   obtain⟨av,aw,rfl,rfl,ax⟩:=au
   have ac:=rd2 ar ac
   have h1:=rd2 ar h1
   refine Ac f Z λa f=>Aa (Ag (Ae ?_))
   refine Ab f Z λa f=>AZ underlying24 f Z Z h1 λa f=>Ab f Z λa f=>Aa ?_
   have⟨ay,az,hd⟩:=bind_some hd
   refine AM (λa w=>∃q_347':Unit,ay= .inl q_347'∧∃(aA:GH),GLe ap aA∧Fr a 48 []∧Mem W aA w (H)) ?_ ?_
   ·refine Ak ?_
    have m:=m.fr 1
    refine AI (λaB a w=>∃aC:Int,aC=aB∧∃(aD:GH),GLe ap aD∧Fr a 48 [(1,v1),(2,(pb ad)),(5,av),(20,v1),(21,(iv (x1.length:Int))),(22,(iv aC))]∧Mem W aD w (ib ad 26 [aa]::aw::H)) az ⟨_,Z,_,gr,f.k Z,m⟩ ?_
    clear az f m
    rintro aB aE aF aG a w ⟨aC,rfl,aD,aH,f,m⟩
    have h1:=rd2 aH h1
    have ac:=rd2 aH ac
    have ax:=od1 aH ax
    refine Ae ?_
    refine Aj f Z Z AP λa f=>Aa (Ag ?_)
    rcases Af aF with⟨aI,aF⟩|⟨aI,aF⟩
    ·refine Al f Z aI ?_
     refine An ?_
     refine Ag (Ak (Ae ?_))
     refine Ab f Z λa f=> ?_
     have⟨aJ,aK,aF⟩:=bind_some aF
     refine Be T24 f Z Z Z h1 aK λaL aM a aN aO f=>AK m Br f Z Z aN λa f=>Ac f Z λa f=>Ac f Z λa f=>Aa (Ag (Ae ?_))
     refine Aw 0 0 (ds:=[aa]) m AE f Z Z Z Z Z λa f=>Ab f Z λa f=> ?_
     have⟨aP,aQ,aF⟩:=bind_some aF
     refine AR f Z call56 (Wk.f0 hW m ac aO aQ) λaR w aS m a f=> ?_
     have h1:=rd2 aS h1
     have aO:=rd1 aS aO
     have ax:=od1 aS ax
     refine l_o f (Bc (f.e Z)) λa f=>Aa ?_
     rcases Af aF with⟨aT,aF⟩|⟨aT,aF⟩
     ·refine Al f Z aT ?_
      refine Ae ?_
      refine Ac f Z λa f=>Aa ?_
      refine Ao ?_
      have m:Mem W aR w H:=Mem.drop (H':=[ib ad 26 [aa],aw]) m
      obtain rfl:=sj aF
      obtain rfl:=aG _ rfl
      obtain rfl:=sj hd
      exact⟨[(.bool false)],f.g Z,f.d,_,[],(gt ah (gt ak (gt ar (gt aH aS)))),m,Z,Z⟩
     ·refine Ai f Z aT ?_
      refine An ?_
      refine Ae ?_
      refine Ab f Z λa f=>Ab f Z λa f=> ?_
      have⟨aU,aV,aF⟩:=bind_some aF
      refine l_slice T24 f Z Z h1 (.inl ⟨Z,Z⟩) (.inr ⟨_,_,Z,Z⟩) aV λaW a aX f=>AZ underlying24 f Z Z aX λa f=>Ab f Z λa f=>Aa ?_
      have⟨aY,aZ,aF⟩:=bind_some aF
      refine AM (λa w=>∃q_603':Unit,aY= .inl q_603'∧∃(a0:GH),GLe aR a0∧Fr a 48 [(1,v1),(2,(pb ad)),(5,av),(20,v1),(21,(iv (x1.length:Int))),(22,(iv aC))]∧Mem W a0 w (ib ad 26 [aa]::aw::H)) ?_ ?_
      ·refine Ak ?_
       refine AI (λa1 a w=>∃a2:Int,a2=a1∧∃(a3:GH),GLe aR a3∧Fr a 48 [(1,v1),(2,(pb ad)),(5,av),(7,aM),(20,v1),(21,(iv (x1.length:Int))),(22,(iv aC)),(33,aW),(34,(iv (aU.length:Int))),(35,(iv a2))]∧Mem W a3 w (ib ad 26 [aa]::aw::H)) aZ ⟨_,Z,_,gr,f.k Z,m⟩ ?_
       clear aZ f m
       rintro a1 a4 a5 a6 a w ⟨a2,rfl,a3,a7,f,m⟩
       have aO:=rd1 a7 aO
       have aX:=rd2 a7 aX
       have ax:=od1 a7 ax
       refine Ae ?_
       refine Aj f Z Z AP λa f=>Aa (Ag ?_)
       rcases Af a5 with⟨a8,a5⟩|⟨a8,a5⟩
       ·refine Al f Z a8 ?_
        refine An ?_
        refine Ag (Ak (Ae ?_))
        have⟨a9,ba,a5⟩:=bind_some a5
        refine Be T24 f Z Z Z aX ba λbb bc a bd be f=>AK m Br f Z Z bd λa f=>Ac f Z λa f=>Az ?_
        refine Ab f Z λa f=>Ab f Z λa f=> ?_
        have⟨bf,bg,a5⟩:=bind_some a5
        refine AR f Z call58 (Wk.g m aO bg) λbh w bi m a f=> ?_
        have be:=rd1 bi be
        have ax:=od1 bi ax
        refine Ab f Z λa f=> ?_
        have⟨bj,bk,a5⟩:=bind_some a5
        refine AR f Z call58 (Wk.g m be bk) λbl w bm m a f=> ?_
        have ax:=od1 bm ax
        have⟨bn,bo,a5⟩:=bind_some a5
        refine AA f Z call57 (Ow.lendCall (RI.mono _) 1 ax m Z (λbp bq m br=>Wk.I hW m br bo) (λ_ _ _ _ h=>h)) λbs bt bu w bv m bw a f=> ?_
        obtain⟨rfl,rfl⟩:=bw
        refine l_o f (Bc (f.e Z)) λa f=>Aa ?_
        rcases Af a5 with⟨bx,a5⟩|⟨bx,a5⟩
        ·refine Al f Z bx ?_
         refine Ae ?_
         refine Ac f Z λa f=>Aa ?_
         refine Ao ?_
         have m:Mem W bt w H:=Mem.drop (H':=[ib ad 26 [aa],aw]) m
         obtain rfl:=sj a5
         obtain rfl:=a6 _ rfl
         obtain rfl:=sj aF
         obtain rfl:=aG _ rfl
         obtain rfl:=sj hd
         exact⟨[(.bool false)],f.g Z,f.d,_,[],(gt ah (gt ak (gt ar (gt aH (gt aS (gt a7 (gt bi (gt bm bv)))))))),m,Z,Z⟩
        ·refine Ai f Z bx ?_
         refine An ?_
         refine Ah ?_
         refine Aj f Z Z Ay λa f=>Ab f Z λa f=>Aa ?_
         obtain rfl:=sj a5
         exact⟨_,Z,_,Z,_,(gt a7 (gt bi (gt bm bv))),f.k Z,m⟩
       ·refine Ai f Z a8 ?_
        refine AG Z ?_
        obtain rfl:=sj a5
        obtain rfl:=a6 _ rfl
        exact⟨_,Z,_,a7,f.k Z,m⟩
      ·rintro a w ⟨_,rfl,a0,bz,f,m⟩
       refine Ah ?_
       refine Aj f Z Z Ay λa f=>Ab f Z λa f=>Aa ?_
       obtain rfl:=sj aF
       exact⟨_,Z,_,Z,_,(gt aH (gt aS bz)),f.k Z,m⟩
    ·refine Ai f Z aI ?_
     refine AG Z ?_
     have m:Mem W aD w H:=Mem.drop (H':=[ib ad 26 [aa],aw]) m
     obtain rfl:=sj aF
     obtain rfl:=aG _ rfl
     exact⟨_,Z,_,aH,f.weak trivial,m⟩
   ·rintro a w ⟨_,rfl,aA,bA,f,m⟩
    refine Ae ?_
    refine Ac f Z λa f=>Aa ?_
    refine Ao ?_
    obtain rfl:=sj hd
    exact⟨[(.bool true)],f.g Z,f.d,_,[],(gt ah (gt ak (gt ar bA))),m,Z,Z⟩
theorem Wk.W0 {aa v1:Value}{ab:LL}{x1:LI}(m:Mem W G w (H))(ac:R2 G aa ab)(h1:R1 G v1 x1){y:Bool}(hd:D.W0 ab x1=some y):
  Calls prog 177 #[(.agg #[aa]),v1] w (Res W G H (λ_ Ho v=>Ho=[]∧v=(.bool y))):=by
 refine Ap (args:=[(.agg #[aa]),v1]) (N:=13) [.tmp 4] func177 Z Z (lb Z) Z λa f=> ?_
 unfold D.W0 at hd
 refine Ae ?_
 refine A8 (cs:=[aa]) m f Z Z Z λad w a m f=>Ac f Z λa f=>Az ?_
 refine Aw 0 0 (ds:=[aa]) m AE f Z Z Z Z Z λa f=> ?_
 have⟨ae,af,hd⟩:=bind_some hd
 refine AR f Z call11 (Wk.u m ac af) λag w ah m a f=> ?_
 have ac:=rd2 ah ac
 have h1:=rd1 ah h1
 refine Ab f Z λa f=> ?_
 have⟨ai,aj,hd⟩:=bind_some hd
 refine Bh 5 (λa w=>∃ak,GLe ag ak∧Mem W ak w (ib ad 26 [aa]::H)∧Fr a 13 [(0,(.agg #[aa])),(1,v1),(2,(pb ad)),(5,(.agg #[aa])),(6,(.bool ae)),(7,(.bool ae)),(12,(.bool ai))]) ?_ ?_
 ·rcases Af aj with⟨al,aj⟩|⟨al,aj⟩
  ·refine As f al ?_
   refine Ab f Z λa f=>As f al ?_
   refine Aw 0 0 (ds:=[aa]) m AE f Z Z Z Z Z λa f=>As f al ?_
   have⟨am,an,aj⟩:=bind_some aj
   refine AR f Z call61 (Wk.b m ac an) λao w ap m a f=> ?_
   have h1:=rd1 ap h1
   refine As f al ?_
   have⟨aq,ar,aj⟩:=bind_some aj
   refine AR f Z call63 (Wk.P m h1 ar) λau w av m a f=>l_o f (AW (f.e Z) al (f.e Z)) λa f=> ?_
   obtain rfl:=sj aj
   exact⟨_,(gt ap av),m,f.k Z⟩
  ·refine Au f al λa f=> ?_
   refine Au f al λa f=>Au f al λa f=>Au f al λa f=>l_o f (AX (f.e Z) al (f.e Z)) λa f=> ?_
   obtain rfl:=sj aj
   exact⟨_,gr,m,f.k Z⟩
 ·rintro a w ⟨ak,aw,m,f⟩
  refine Ac f Z λa f=>Aa ?_
  refine Ao ?_
  have m:Mem W ak w H:=Mem.drop (H':=[ib ad 26 [aa]]) m
  obtain rfl:=sj hd
  exact⟨[(.bool ai)],f.g Z,f.d,_,[],(gt ah aw),m,Z,Z⟩
theorem Wk.n1 {aa v1:Value}{ab:LL}{x1:LI}(m:Mem W G w (H))(ac:R2 G aa ab)(h1:R1 G v1 x1){y:Bool}(hd:D.n1 ab x1=some y):
  Calls prog 178 #[(.agg #[aa]),v1] w (Res W G H (λ_ Ho v=>Ho=[]∧v=(.bool y))):=by
 refine Ap (args:=[(.agg #[aa]),v1]) (N:=20) [.tmp 4] func178 Z Z (lb Z) Z λa f=> ?_
 unfold D.n1 at hd
 refine Ae ?_
 refine A8 (cs:=[aa]) m f Z Z Z λad w a m f=>Ac f Z λa f=>Aa (Ag ?_)
 refine Bp 16 A7 (by kernel_rfl) m ?_
 refine AJ 0 16 Z f Z λa f=>q_len (i:=1) 16 underlying33 h1 Z (by kernel_rfl) Z f Z Z Z λa f=>q_p 2 16 Z f (λ_=>Bm (f.e Z) (f.e Z) Cu) λa f=>AJ 3 16 Z f Z λa f=> ?_
 rcases Af hd with⟨ae,hd⟩|⟨ae,hd⟩
 ·refine BX (i:=4) (ds:=[aa]) 16 0 AE Z Z Z Z (by kernel_rfl) Z f (Cr f Z Z Z ae) Z Z λa f=> ?_
  refine AJ (hw:=wo f ae) 5 16 Z f Z λa f=> ?_
  have⟨af,ag,hd⟩:=bind_some hd
  refine B8 (hw:=wo f ae) 6 16 T33 h1 ag Z f Z Z λah ai a aj ak f=> ?_
  subst ak
  refine B6 (hw:=wo f ae) 7 16 Pl2 aj Z f Z λa f=>AJ (hw:=wo f ae) 8 16 Z f Z λa f=>AJ (hw:=wo f ae) 11 16 Z f Z λa f=>q_len (i:=12) 16 underlying33 h1 Z (by kernel_rfl) Z f (Cr f Z Z Z ae) Z Z λa f=>Bs 9 Z λal w am m an an=> ?_
  have ac:=rd2 am ac
  have h1:=rd1 am h1
  refine As f ae ?_
  have⟨ao,ap,hd⟩:=bind_some hd
  refine AA f Z call253 (Wk.k m ac h1 ap) λaq ar au w av m aw a f=> ?_
  obtain⟨ax,ay,rfl,rfl,az⟩:=aw
  refine Aa ?_
  refine an ar [ay] _ _ av m ?_
  refine q_own_len (i:=10) 16 0 m az Z underlying33 Z (by kernel_rfl) Z f (Cr f Z Z Z ae) Z Z λa f=>q_p (hw:=wo f ae) 13 16 Z f (λ_=>Bm (f.e Z) (f.e Z) BW) λa f=>q_p 14 16 Z f (λ_=>AW (f.e Z) ae (f.e Z)) λa f=>q_p 15 16 Z f (λ_=>A6 (f.e Z)) λa f=>Bd λaA w aB m=>Aa ?_
  refine Ao ?_
  have m:Mem W aA w H:=Mem.drop (H':=[ay,ib ad 26 [aa]]) m
  obtain rfl:=sj hd
  exact⟨[(.bool ((ao.length:Int)==(x1.length:Int)))],f.g Z,f.d,_,[],(gt am (gt av aB)),m,Z,Z⟩
 ·refine Bb 4 16 Z f ae λa f=> ?_
  refine Bb 5 16 Z f ae λa f=>Bb 6 16 Z f ae λa f=>Bb 7 16 Z f ae λa f=>Bb 8 16 Z f ae λa f=>Bb 9 16 Z f ae λa f=>Bb 10 16 Z f ae λa f=>Bb 11 16 Z f ae λa f=>Bb 12 16 Z f ae λa f=>Bb 13 16 Z f ae λa f=>q_p 14 16 Z f (λ_=>AX (f.e Z) ae (f.e Z)) λa f=>q_p 15 16 Z f (λ_=>A6 (f.e Z)) λa f=>Bd λaC w aD m=>Aa ?_
  refine Ao ?_
  have m:Mem W aC w H:=Mem.drop (H':=[ib ad 26 [aa]]) m
  obtain rfl:=sj hd
  exact⟨[(.bool false)],f.g Z,f.d,_,[],aD,m,Z,Z⟩
theorem Wk.z0 {aa v1:Value}{ab:LL}{x1:LI}(m:Mem W G w (H))(ac:R2 G aa ab)(h1:R1 G v1 x1){y:Bool}(hd:D.z0 ab x1=some y):
  Calls prog 59 #[(.agg #[aa]),v1] w (Res W G H (λ_ Ho v=>Ho=[]∧v=(.bool y))):=by
 refine Ap (args:=[(.agg #[aa]),v1]) (N:=13) [.tmp 4] func59 Z Z (lb Z) Z λa f=> ?_
 unfold D.z0 at hd
 refine Ae ?_
 refine A8 (cs:=[aa]) m f Z Z Z λad w a m f=>Ac f Z λa f=>Az ?_
 refine Aw 0 0 (ds:=[aa]) m AE f Z Z Z Z Z λa f=>Ab f Z λa f=> ?_
 have⟨ae,af,hd⟩:=bind_some hd
 refine AR f Z call177 (Wk.W0 m ac h1 af) λag w ah m a f=> ?_
 have ac:=rd2 ah ac
 have h1:=rd1 ah h1
 refine Ab f Z λa f=> ?_
 have⟨ai,aj,hd⟩:=bind_some hd
 refine Bh 4 (λa w=>∃ak,GLe ag ak∧Mem W ak w (ib ad 26 [aa]::H)∧Fr a 13 [(0,(.agg #[aa])),(1,v1),(2,(pb ad)),(5,(.agg #[aa])),(6,v1),(7,(.bool ae)),(8,(.bool ae)),(12,(.bool ai))]) ?_ ?_
 ·rcases Af aj with⟨al,aj⟩|⟨al,aj⟩
  ·refine As f al ?_
   refine Aw 0 0 (ds:=[aa]) m AE f Z Z Z Z Z λa f=>As f al ?_
   refine Ab f Z λa f=>As f al ?_
   have⟨am,an,aj⟩:=bind_some aj
   refine AR f Z call178 (Wk.n1 m ac h1 an) λao w ap m a f=>l_o f (AW (f.e Z) al (f.e Z)) λa f=> ?_
   obtain rfl:=sj aj
   exact⟨_,ap,m,f.k Z⟩
  ·refine Au f al λa f=> ?_
   refine Au f al λa f=>Au f al λa f=>l_o f (AX (f.e Z) al (f.e Z)) λa f=> ?_
   obtain rfl:=sj aj
   exact⟨_,gr,m,f.k Z⟩
 ·rintro a w ⟨ak,aq,m,f⟩
  refine Ac f Z λa f=>Aa ?_
  refine Ao ?_
  have m:Mem W ak w H:=Mem.drop (H':=[ib ad 26 [aa]]) m
  obtain rfl:=sj hd
  exact⟨[(.bool ai)],f.g Z,f.d,_,[],(gt ah aq),m,Z,Z⟩
theorem Wk.K {aa v1:Value}{ab x1:LL}(m:Mem W G w (H))(ac:R2 G aa ab)(h1:R2 G v1 x1){y:Bool}(hd:D.K ab x1=some y):
  Calls prog 10 #[(.agg #[aa]),v1] w (Res W G H (λ_ Ho v=>Ho=[]∧v=(.bool y))):=by
 refine Ap (args:=[(.agg #[aa]),v1]) (N:=44) [.tmp 4] func10 Z Z (lb Z) Z λa f=> ?_
 unfold D.K at hd
 refine Ae ?_
 refine A8 (cs:=[aa]) m f Z Z Z λad w a m f=>Ac f Z λa f=>Aa (Ag (Ae ?_))
 refine Aw 0 0 (ds:=[aa]) m AE f Z Z Z Z Z λa f=> ?_
 have⟨ae,af,hd⟩:=bind_some hd
 refine AR f Z call11 (Wk.u m ac af) λag w ah m a f=> ?_
 have ac:=rd2 ah ac
 have h1:=rd2 ah h1
 refine l_o f (Bc (f.e Z)) λa f=>Ab f Z λa f=> ?_
 refine Bh 4 (λa w=>∃ai,GLe ag ai∧Mem W ai w (ib ad 26 [aa]::H)∧Fr a 44 [(0,(.agg #[aa])),(1,v1),(2,(pb ad)),(7,(.agg #[aa])),(8,(.bool ae)),(9,(.bool (!ae))),(10,(.bool (!ae))),(14,(.bool ((!ae)||(decide ((80:Int)<(x1.length:Int))))))]) ?_ ?_
 ·rcases Bool.eq_false_or_eq_true (!ae) with aj|aj
  ·refine Au f aj λa f=> ?_
   refine Au f aj λa f=>Au f aj λa f=>l_o f (AW (f.e Z) aj (f.e Z)) λa f=> ?_
   exact⟨_,gr,m,f.weak ⟨Z,Z,Z,Z,Z,Z,Z,by rw[aj];rfl,trivial⟩⟩
  ·refine As f aj ?_
   refine Ab f Z λa f=>As f aj ?_
   refine AZ underlying24 f Z Z h1 λa f=>As f aj ?_
   refine Aj f Z Z Cu λa f=>l_o f (AX (f.e Z) aj (f.e Z)) λa f=> ?_
   exact⟨_,gr,m,f.weak ⟨Z,Z,Z,Z,Z,Z,Z,by rw[aj];rfl,trivial⟩⟩
 ·rintro a w ⟨ai,ak,m,f⟩
  have ac:=rd2 ak ac
  have h1:=rd2 ak h1
  refine Aa ?_
  rcases Af hd with⟨al,hd⟩|⟨al,hd⟩
  ·refine Al f Z al ?_
   refine Ae ?_
   refine Ac f Z λa f=>Aa ?_
   refine Ao ?_
   have m:Mem W ai w H:=Mem.drop (H':=[ib ad 26 [aa]]) m
   obtain rfl:=sj hd
   exact⟨[(.bool false)],f.g Z,f.d,_,[],(gt ah ak),m,Z,Z⟩
  ·refine Ai f Z al ?_
   refine An ?_
   refine Ag (Ae ?_)
   refine Ac f Z λa f=>Aa ?_
   have⟨am,an,hd⟩:=bind_some hd
   refine AM (λa w=>∃q_220':Unit,am= .inl q_220'∧∃(ao:GH),GLe ai ao∧Fr a 44 []∧Mem W ao w (H)) ?_ ?_
   ·refine Ak ?_
    refine AI (λap a w=>∃aq:Int,aq=ap∧∃(ar:GH),GLe ai ar∧Fr a 44 [(1,v1),(2,(pb ad)),(5,(iv aq))]∧Mem W ar w (ib ad 26 [aa]::H)) an ⟨_,Z,_,gr,f.k Z,m⟩ ?_
    clear an f m
    rintro ap au av aw a w ⟨aq,rfl,ar,ax,f,m⟩
    have h1:=rd2 ax h1
    have ac:=rd2 ax ac
    refine Ag (Ae ?_)
    refine Ab f Z λa f=>Ab f Z λa f=>AZ underlying24 f Z Z h1 λa f=>Aj f Z Z AP λa f=>Aa ?_
    rcases Af av with⟨ay,av⟩|⟨ay,av⟩
    ·refine Al f Z ay ?_
     refine An ?_
     refine Ag (Ak (Ag (Ag ?_)))
     refine Bp 7 A7 (by kernel_rfl) m ?_
     refine BX (i:=0) (ds:=[aa]) 7 0 AE Z Z Z Z (by kernel_rfl) Z f Z Z Z λa f=>AJ 1 7 Z f Z λa f=>AJ 2 7 Z f Z λa f=> ?_
     have⟨az,aA,av⟩:=bind_some av
     refine B8 3 7 T24 h1 aA Z f Z Z λaB aC a aD aE f=>B6 4 7 Br aD Z f Z λa f=> ?_
     have⟨aF,aG,av⟩:=bind_some av
     refine B7 (i:=5) 7 Z (by kernel_rfl) Z f Z Z Z call59 (λ_ _ w aH m=>Wk.z0 m (rd2 aH ac) (rd1 aH aE) aG) λa f=>q_p 6 7 Z f (λ_=>Bc (f.e Z)) λa f=>Bd λaI w aJ m=> ?_
     have h1:=rd2 aJ h1
     have ac:=rd2 aJ ac
     refine Aa ?_
     rcases Af av with⟨aK,av⟩|⟨aK,av⟩
     ·refine Al f Z aK ?_
      refine Ae ?_
      refine Ac f Z λa f=>Aa ?_
      refine Ao ?_
      have m:Mem W aI w H:=Mem.drop (H':=[ib ad 26 [aa]]) m
      obtain rfl:=sj av
      obtain rfl:=aw _ rfl
      obtain rfl:=sj hd
      exact⟨[(.bool false)],f.g Z,f.d,_,[],(gt ah (gt ak (gt ax aJ))),m,Z,Z⟩
     ·refine Ai f Z aK ?_
      refine An ?_
      refine Ae ?_
      refine Ac f Z λa f=>Aa ?_
      have⟨aL,aM,av⟩:=bind_some av
      refine AM (λa w=>∃q_386':Unit,aL= .inl q_386'∧∃(aN:GH),GLe aI aN∧Fr a 44 [(1,v1),(2,(pb ad)),(5,(iv aq))]∧Mem W aN w (ib ad 26 [aa]::H)) ?_ ?_
      ·refine Ak ?_
       refine AI (λaO a w=>∃aP:Int,aP=aO∧∃(aQ:GH),GLe aI aQ∧Fr a 44 [(1,v1),(2,(pb ad)),(5,(iv aq)),(6,(iv aP))]∧Mem W aQ w (ib ad 26 [aa]::H)) aM ⟨_,Z,_,gr,f.k Z,m⟩ ?_
       clear aM f m
       rintro aO aR aS aT a w ⟨aP,rfl,aQ,aU,f,m⟩
       have h1:=rd2 aU h1
       have ac:=rd2 aU ac
       refine Ag (Ae ?_)
       refine Ab f Z λa f=>Ab f Z λa f=>Aj f Z Z AP λa f=>Aa ?_
       rcases Af aS with⟨aV,aS⟩|⟨aV,aS⟩
       ·refine Al f Z aV ?_
        refine An ?_
        refine Ag (Ak (Ag ?_))
        refine Bp 11 A7 (by kernel_rfl) m ?_
        refine BX (i:=0) (ds:=[aa]) 11 0 AE Z Z Z Z (by kernel_rfl) Z f Z Z Z λa f=>AJ 1 11 Z f Z λa f=>AJ 2 11 Z f Z λa f=> ?_
        have⟨aW,aX,aS⟩:=bind_some aS
        refine B8 3 11 T24 h1 aX Z f Z Z λaY aZ a a0 a1 f=>B6 4 11 Br a0 Z f Z λa f=>AJ 5 11 Z f Z λa f=>AJ 6 11 Z f Z λa f=> ?_
        have⟨a2,a3,aS⟩:=bind_some aS
        refine B8 7 11 T24 h1 a3 Z f Z Z λa4 a5 a a6 a7 f=>B6 8 11 Br a6 Z f Z λa f=> ?_
        have⟨a8,a9,aS⟩:=bind_some aS
        refine B7 (i:=9) 11 Z (by kernel_rfl) Z f Z Z Z call60 (λ_ _ w ba m=>Wk.X m (rd2 ba ac) (rd1 ba a1) (rd1 ba a7) a9) λa f=>q_p 10 11 Z f (λ_=>Bc (f.e Z)) λa f=>Bd λbb w bc m=>Aa ?_
        rcases Af aS with⟨bd,aS⟩|⟨bd,aS⟩
        ·refine Al f Z bd ?_
         refine Ae ?_
         refine Ac f Z λa f=>Aa ?_
         refine Ao ?_
         have m:Mem W bb w H:=Mem.drop (H':=[ib ad 26 [aa]]) m
         obtain rfl:=sj aS
         obtain rfl:=aT _ rfl
         obtain rfl:=sj av
         obtain rfl:=aw _ rfl
         obtain rfl:=sj hd
         exact⟨[(.bool false)],f.g Z,f.d,_,[],(gt ah (gt ak (gt ax (gt aJ (gt aU bc))))),m,Z,Z⟩
        ·refine Ai f Z bd ?_
         refine An ?_
         refine Ah ?_
         refine Ab f Z λa f=>Aj f Z Z Ay λa f=>Ac f Z λa f=>Aa ?_
         obtain rfl:=sj aS
         exact⟨_,Z,_,Z,_,(gt aU bc),f.k Z,m⟩
       ·refine Ai f Z aV ?_
        refine AG Z ?_
        obtain rfl:=sj aS
        obtain rfl:=aT _ rfl
        exact⟨_,Z,_,aU,f.k Z,m⟩
      ·rintro a w ⟨_,rfl,aN,be,f,m⟩
       refine Ah ?_
       refine Ab f Z λa f=>Aj f Z Z Ay λa f=>Ac f Z λa f=>Aa ?_
       obtain rfl:=sj av
       exact⟨_,Z,_,Z,_,(gt ax (gt aJ be)),f.k Z,m⟩
    ·refine Ai f Z ay ?_
     refine AG Z ?_
     have m:Mem W ar w H:=Mem.drop (H':=[ib ad 26 [aa]]) m
     obtain rfl:=sj av
     obtain rfl:=aw _ rfl
     exact⟨_,Z,_,ax,f.weak trivial,m⟩
   ·rintro a w ⟨_,rfl,ao,bf,f,m⟩
    refine Ae ?_
    refine Ac f Z λa f=>Aa ?_
    refine Ao ?_
    obtain rfl:=sj hd
    exact⟨[(.bool true)],f.g Z,f.d,_,[],(gt ah (gt ak bf)),m,Z,Z⟩
theorem Wk.M0 {aa:Value}{ab:LL}(m:Mem W G w (H))(ac:R2 G aa ab){y:Bool}(hd:D.M0 ab=some y):
  Calls prog 66 #[(.agg #[aa])] w (Res W G H (λ_ Ho v=>Ho=[]∧v=(.bool y))):=by
 refine Ap (args:=[(.agg #[aa])]) (N:=11) [.tmp 2] func66 Z Z (lb Z) Z λa f=> ?_
 unfold D.M0 at hd
 refine Ae ?_
 refine A8 (cs:=[aa]) m f Z Z Z λad w a m f=>Ac f Z λa f=>Az ?_
 refine Aw 0 0 (ds:=[aa]) m AE f Z Z Z Z Z λa f=> ?_
 have⟨ae,af,hd⟩:=bind_some hd
 refine AR f Z call54 (Wk.F m ac af) λag w ah m a f=> ?_
 have ac:=rd2 ah ac
 refine Ab f Z λa f=> ?_
 refine Bh 5 (λa w=>∃ai,GLe ag ai∧Mem W ai w (ib ad 26 [aa]::H)∧Fr a 11 [(0,(.agg #[aa])),(1,(pb ad)),(3,(.agg #[aa])),(4,(.bool ae)),(5,(.bool ae)),(10,(.bool (ae&&(decide ((ab.length:Int)≤8)))))]) ?_ ?_
 ·rcases Bool.eq_false_or_eq_true ae with aj|aj
  ·refine As f aj ?_
   refine BQ underlying26 Z sizeOf24 f Z λa f=>As f aj ?_
   refine AV 0 0 m BH f Z Z Z Z λa f=>As f aj ?_
   refine AZ underlying24 f Z Z ac λa f=>As f aj ?_
   refine Aj f Z Z CN λa f=>l_o f (AW (f.e Z) aj (f.e Z)) λa f=> ?_
   exact⟨_,gr,m,f.weak ⟨Z,Z,Z,Z,Z,by rw[aj];rfl,trivial⟩⟩
  ·refine Au f aj λa f=> ?_
   refine Au f aj λa f=>Au f aj λa f=>Au f aj λa f=>l_o f (AX (f.e Z) aj (f.e Z)) λa f=> ?_
   exact⟨_,gr,m,f.weak ⟨Z,Z,Z,Z,Z,by rw[aj];rfl,trivial⟩⟩
 ·rintro a w ⟨ai,ak,m,f⟩
  refine Ac f Z λa f=>Aa ?_
  refine Ao ?_
  have m:Mem W ai w H:=Mem.drop (H':=[ib ad 26 [aa]]) m
  obtain rfl:=sj hd
  exact⟨[(.bool (ae&&(decide ((ab.length:Int)≤8))))],f.g Z,f.d,_,[],(gt ah ak),m,Z,Z⟩
end Go.Proofs.YtgadoeifdbijcaaGreatDoor

set_option maxRecDepth 100000
namespace Go.Proofs.YtgadoeifdbijcaaGreatDoor
open Go Go.Sx
open Go.Proofs.Tryz Go.Proofs.YtgadoeifdbijcaaGreatDoor.Tryz IntKind
variable {W w : World} {G : GH} {H : List Itm}
theorem Wk.e1 {x0:Int}(m:Mem W G w (H)){y:Int}(hd:D.e1 x0=some y):
  Calls prog 186 #[(iv x0)] w (Res W G H (λ_ Ho v=>Ho=[]∧v=(.int .u32 y))):=by
 refine Ap (args:=[(iv x0)]) (N:=6) [.tmp 2] func186 Z Z (lb Z) Z λa f=> ?_
 unfold D.e1 at hd
 refine Ae ?_
 refine Ac f Z λa f=>Az ?_
 refine Ab f Z λa f=> ?_
 obtain⟨aa,hd⟩:=Ea hd
 refine l_o f (r_shl (f.e Z) (f.e Z) aa) λa f=>Aj f Z Z Ct λa f=>Ac f Z λa f=>Aa ?_
 refine Ao ?_
 obtain rfl:=sj hd
 exact⟨[(.int .u32 (IntKind.u32.wrap ((ishl .u32 1 x0)-1)))],f.g Z,f.d,_,[],gr,m,Z,Z⟩
theorem Wk.Q {v0:Value}{x0:LI}(m:Mem W G w (H))(h0:RSl (RI .u32) G v0 x0){y:Int}(hd:D.Q x0=some y):
  Calls prog 72 #[v0] w (Res W G H (λ_ Ho v=>Ho=[]∧v=(.int .u32 y))):=by
 refine Ap (args:=[v0]) (N:=6) [.tmp 2] func72 Z Z (lb Z) Z λa f=> ?_
 unfold D.Q at hd
 refine Ae ?_
 refine Ac f Z λa f=>Az ?_
 refine Ab f Z λa f=>AZ underlying76 f Z Z h0 λa f=> ?_
 have⟨aa,ab,hd⟩:=bind_some hd
 refine AR f Z call186 (Wk.e1 m ab) λac w ad m a f=>Ac f Z λa f=>Aa ?_
 refine Ao ?_
 obtain rfl:=sj hd
 exact⟨[(.int .u32 aa)],f.g Z,f.d,_,[],ad,m,Z,Z⟩
theorem Wk.i0 {v0:Value}{x0:LI}{x1 x2:Int}(hW:BJ W)(m:Mem W G w (H))(h0:RSl (RI .u32) G v0 x0){y:Int}(hd:D.i0 x0 x1 x2=some y):
  Calls prog 258 #[v0,(.int .u32 x1),(iv x2)] w (Res W G H (λ_ Ho v=>Ho=[]∧v=(.int .u32 y))):=by
 refine Ap (args:=[v0,(.int .u32 x1),(iv x2)]) (N:=38) [.tmp 6] func258 Z Z (lb Z) Z λa f=> ?_
 unfold D.i0 at hd
 refine Ae ?_
 refine Ac f Z λa f=>Az ?_
 refine Ab f Z λa f=>Ab f Z λa f=>Ab f Z λa f=>Ab f Z λa f=> ?_
 have⟨aa,ab,hd⟩:=bind_some hd
 refine AR f Z call99 (Wk.h m ab) λac w ad m a f=> ?_
 have h0:=rd1 ad h0
 refine Aj f Z Z b_or λa f=> ?_
 have⟨ae,af,hd⟩:=bind_some hd
 refine AR f Z call185 (Wk.J hW m h0 af) λag w ah m a f=> ?_
 have h0:=rd1 ah h0
 refine Ac f Z λa f=>Az ?_
 refine Ac f Z λa f=>Aa (Ag (Ae ?_))
 refine Ab f Z λa f=> ?_
 have⟨ai,aj,hd⟩:=bind_some hd
 refine AA f Z call108 (Wk.q hW m aj) λak al am w an m ao a f=> ?_
 obtain⟨ap,aq,rfl,rfl,ar⟩:=ao
 have h0:=rd1 an h0
 refine Bz 0 m ar Z underlying133 f Z Z λa f=>Ab f Z λa f=>Aa ?_
 have⟨au,av,hd⟩:=bind_some hd
 refine AM (λa w=>∃aw:Int,aw=au∧∃(ax:GH),GLe al ax∧Fr a 38 [(1,(.int .u32 x1)),(2,(iv x2)),(8,(.int .u32 aw))]∧Mem W ax w (H)) ?_ ?_
 ·refine Ak ?_
  refine AI (λay a w=>∃az:Int,∃aA:Int,(az,aA)=ay∧∃(aB:GH),GLe al aB∧Fr a 38 [(0,v0),(1,(.int .u32 x1)),(2,(iv x2)),(8,(.int .u32 az)),(19,ap),(20,(iv (ai.length:Int))),(21,(iv aA))]∧Mem W aB w (aq::H)) av ⟨_,_,Z,_,gr,f.k Z,m⟩ ?_
  clear av f m
  rintro ay aC aD aE a w ⟨az,aA,rfl,aB,aF,f,m⟩
  have h0:=rd1 aF h0
  have ar:=od1 aF ar
  refine Ae ?_
  refine Aj f Z Z AP λa f=>Aa (Ag ?_)
  rcases Af aD with⟨aG,aD⟩|⟨aG,aD⟩
  ·refine Al f Z aG ?_
   refine An ?_
   refine Ag (Ak (Ae ?_))
   have⟨aH,aI,aD⟩:=bind_some aD
   refine Bj 0 m ar Z T133 f Z Z Z aI λaJ a aK f=>Bl 0 m ar Z Pl3 f Z Z aK aI λaL a aM f=> ?_
   subst aM
   refine Ac f Z λa f=>Aa (Ah ?_)
   refine Ab f Z λa f=>Ab f Z λa f=>Ab f Z λa f=> ?_
   have⟨aN,aO,aD⟩:=bind_some aD
   refine Be T76 f Z Z Z h0 aO λaP aQ a aR aS f=> ?_
   subst aS
   refine AK m Pl80 f Z Z aR λa f=>Aj f Z Z b_or λa f=>Ac f Z λa f=>Aa (Ah ?_)
   refine Aj f Z Z Ay λa f=>Ab f Z λa f=>Aa ?_
   obtain rfl:=sj aD
   exact⟨_,Z,_,_,Z,_,aF,f.k Z,m⟩
  ·refine Ai f Z aG ?_
   refine AG Z ?_
   have m:Mem W aB w H:=Mem.drop (H':=[aq]) m
   obtain rfl:=sj aD
   obtain rfl:=aE _ rfl
   exact⟨_,Z,_,aF,f.k Z,m⟩
 ·rintro a w ⟨aw,rfl,ax,aT,f,m⟩
  refine Ae ?_
  refine Ab f Z λa f=>Ab f Z λa f=>Aj f Z Z DY λa f=>Ab f Z λa f=> ?_
  have⟨aU,aV,hd⟩:=bind_some hd
  refine AR f Z call99 (Wk.h m aV) λaW w aX m a f=>Aj f Z Z DY λa f=>Ac f Z λa f=>Aa ?_
  refine Ao ?_
  obtain rfl:=sj hd
  exact⟨[(.int .u32 (iandNot .u32 (iandNot .u32 aw x1) aU))],f.g Z,f.d,_,[],(gt ad (gt ah (gt an (gt aT aX)))),m,Z,Z⟩
theorem Wk.j0 {x0:Int}(m:Mem W G w (H)){y:Int}(hd:D.j0 x0=some y):
  Calls prog 79 #[(.int .u32 x0)] w (Res W G H (λ_ Ho v=>Ho=[]∧v=(iv y))):=by
 refine Ap (args:=[(.int .u32 x0)]) (N:=5) [.tmp 2] func79 Z Z (lb Z) Z λa f=> ?_
 unfold D.j0 at hd
 refine Ae ?_
 refine Ac f Z λa f=>Az ?_
 refine Ab f Z λa f=> ?_
 have⟨aa,ab,hd⟩:=bind_some hd
 refine AR f Z call194 (Wk.K0 m ab) λac w ad m a f=>Ac f Z λa f=>Aa ?_
 refine Ao ?_
 obtain rfl:=sj hd
 exact⟨[(iv aa)],f.g Z,f.d,_,[],ad,m,Z,Z⟩
end Go.Proofs.YtgadoeifdbijcaaGreatDoor

set_option maxRecDepth 100000
namespace Go.Proofs.YtgadoeifdbijcaaGreatDoor
open Go Go.Sx
open Go.Proofs.Tryz Go.Proofs.YtgadoeifdbijcaaGreatDoor.Tryz IntKind
variable {W w : World} {G : GH} {H : List Itm}
theorem hT67 :SlT prog 133 3 1 8 (iv 0):=⟨underlying133,Tryz.t3,by kernel_rfl,by kernel_rfl,by kernel_rfl,by kernel_rfl⟩
theorem hP3 :By prog 3:=isAgg3
theorem hP61 :By prog 76:=isAgg76
theorem hP83 :By prog 191:=isAgg191
abbrev wPtr (b:Nat):Value:= .pointer (some ⟨b,0,none⟩)
abbrev CE (b:Nat)(va vm:Value):Itm:=ib b 193 [va,vm]
theorem OwMp.cells {β:Type}{q:IntKind}{enc:β→Value}{it:Itm}{v:Value}{M:List (Int×β)}(h:OwMp q enc it v M):v.cells= #[v]:=by
 obtain⟨b,es,clock,rfl,rfl,_⟩:=h;rfl
theorem Wk.k2 {v0:Value}{x0:LI}(m:Mem W G w H)(h0:RSl (RI .u32) G v0 x0):
  Calls prog 68 #[v0] w (Res W G H (λG' Ho v=>∃(bx:Nat) (vm:Value) (itM:Itm),Ho=[CE bx v0 vm,itM]∧v=wPtr bx∧OwMp .u32 (Value.int .i64) itM vm [])):=by
 refine Ap (args:=[v0]) (N:=7) [.tmp 2] func68 Z Z (lb Z) Z λa f=>Ae ?_
 refine Ac f Z λa f=>Az ?_
 refine Ab f Z λa f=>l_makeMap .u32 (Value.int .i64) m f Z λitM vm w a m oM f=> ?_
 have hb:∀w,(Instr.build 193 #[(0,v0),(1,vm)]).run prog w= .ok (.agg #[v0,vm]) w:=by intro w;simp[Instr.build,Instr.fill,h0.cells,OwMp.cells oM,C9]
 refine DU f Z Z hb λa f=>A8 (cs:=[v0,vm]) m f Z Z Z λbx w a m f=>Ac f Z λa f=>Aa ?_
 refine Ao ?_
 exact⟨[wPtr bx],f.g Z,f.d,G,[CE bx v0 vm,itM],gr,m,_,_,_,Z,Z,oM⟩
def AfterOk (W:World)(F:LI)(n:Nat):Prop:=∀(w:World) (G:GH) (H:List Itm) (bx:Nat) (va vm:Value) (itM:Itm) (M:List (Int×Int)) (k y:Int) (m:Mem W G w (CE bx va vm::itM::H)) (h0:RSl (RI .u32) G va F) (oM:OwMp .u32 (Value.int .i64) itM vm M) (hc:D7 F M) (hd:D.n n F k=some y),
 Calls prog 69 #[wPtr bx,(.int .u32 k)] w (Res W G H (λG' Ho v=>∃(it':Itm) (M':List (Int×Int)),Ho=[CE bx va vm,it']∧v= .int .i64 y∧OwMp .u32 (Value.int .i64) it' vm M'∧D7 F M'))
theorem AfterOk.go {W:World}{F:LI}{n:Nat}(h:AfterOk W F n){w:World}{G:GH}{H:List Itm}{bx:Nat}{va vm:Value}{itM:Itm}{M:List (Int×Int)}{k y:Int}(m:Mem W G w (CE bx va vm::itM::H))(h0:RSl (RI .u32) G va F)(oM:OwMp .u32 (Value.int .i64) itM vm M)(hc:D7 F M)(hd:D.n n F k=some y):
 Calls prog 69 #[wPtr bx,(.int .u32 k)] w (Res W G H (λG' Ho v=>∃(it':Itm) (M':List (Int×Int)),Ho=[CE bx va vm,it']∧v= .int .i64 y∧OwMp .u32 (Value.int .i64) it' vm M'∧D7 F M')):=h _ _ _ _ _ _ _ _ _ _ m h0 oM hc hd
set_option maxHeartbeats 1000000 in
theorem Wk.h2 {W:World}(hW:BJ W){F:LI}{n:Nat}(ih:AfterOk W F n){w:World}{G:GH}{H:List Itm}{bx:Nat}{va vm:Value}{itM:Itm}{M:List (Int×Int)}{k v y:Int}(m:Mem W G w (CE bx va vm::itM::H))(h0:RSl (RI .u32) G va F)(oM:OwMp .u32 (Value.int .i64) itM vm M)(hc:D7 F M)(hd:D.s0 (D.n n F) F k v=some y):
  Calls prog 184 #[wPtr bx,(.int .u32 k),(iv v)] w (Res W G H (λG' Ho r=>∃(it':Itm) (M':List (Int×Int)),Ho=[CE bx va vm,it']∧r= .int .i64 y∧OwMp .u32 (Value.int .i64) it' vm M'∧D7 F M')):=by
 refine Ap (args:=[wPtr bx,(.int .u32 k),(iv v)]) (N:=22) [.tmp 6] func184 Z Z (lb Z) Z λa f=> ?_
 unfold D.s0 at hd
 have⟨b,hb,hd⟩:=bind_some hd
 have⟨s,hs,hd⟩:=bind_some hd
 have⟨o,ho,hd⟩:=bind_some hd
 have⟨t,ht,hd⟩:=bind_some hd
 obtain rfl:=sj hd
 refine Ae ?_
 refine Ac f Z λa f=>Az ?_
 refine Ab f Z λa f=>l_o f (Bx (f.e Z)) λa f=>BQ underlying193 Z sizeOf76 f Z λa f=>AV 0 0 m hP61 f Z Z Z Z λa f=>Ab f Z λa f=>Ab f Z λa f=>AR f Z call258 (Wk.i0 hW m h0 hb) λG1 w hl1 m a f=> ?_
 have h0:=rd1 hl1 h0
 refine AR f Z call79 (Wk.j0 m hs) λG2 w hl2 m a f=> ?_
 have h0:=rd1 hl2 h0
 refine Ab f Z λa f=>Ab f Z λa f=>Ab f Z λa f=>AR f Z call99 (Wk.h m ho) λG3 w hl3 m a f=> ?_
 have h0:=rd1 hl3 h0
 refine Aj f Z Z b_or λa f=>AA f Z call69 (ih.go m h0 oM hc ht) λv4 G4 Ho4 w hl4 m hQ4 a f=> ?_
 obtain⟨it',M',rfl,rfl,oM',hc'⟩:=hQ4
 refine l_o f (r_max2 (f.e Z) (f.e Z)) λa f=>Ac f Z λa f=>Aa ?_
 refine Ao ?_
 exact⟨[.int .i64 (if s<t then t else s)],f.g Z,f.d,G4,[CE bx va vm,it'],gt hl1 (gt hl2 (gt hl3 hl4)),m,_,_,Z,Z,oM',hc'⟩
set_option maxHeartbeats 2000000 in
theorem Wk.Y1 {W:World}(hW:BJ W){F:LI}:∀n:Nat,AfterOk W F n
 |0=>by intro w G H bx va vm itM M k y m h0 oM hc hd;simp[D.n] at hd
 |n+1=>by
  have ih:=Wk.Y1 hW (F:=F) n
  intro w G H bx va vm itM M k y m h0 oM hc hd
  have hd0:=hd
  refine Ap (args:=[wPtr bx,(.int .u32 k)]) (N:=55) [.tmp 4] func69 Z Z (lb Z) Z λa f=> ?_
  unfold D.n at hd
  have⟨all,ha,hd⟩:=bind_some hd
  refine Ae ?_
  refine Ac f Z λa f=>Aa (Ag (Ae ?_))
  refine Ab f Z λa f=>Ab f Z λa f=>l_o f (Bx (f.e Z)) λa f=>BQ underlying193 Z sizeOf76 f Z λa f=>AV 0 0 m hP61 f Z Z Z Z λa f=>AR f Z call72 (Wk.Q m h0 ha) λG1 w hl1 m a f=> ?_
  have h0:=rd1 hl1 h0
  refine Aj f Z Z BW λa f=>Aa ?_
  rcases Af hd with⟨hc1,hd⟩|⟨hc1,hd⟩
  ·obtain rfl:=sj hd
   refine Al f Z hc1 ?_
   refine Ae ?_
   refine Ac f Z λa f=>Aa ?_
   refine Ao ?_
   exact⟨[.int .i64 0],f.g Z,f.d,G1,[CE bx va vm,itM],hl1,m,_,_,Z,Z,oM,hc⟩
  ·refine Ai f Z hc1 ?_
   refine An ?_
   have⟨us,hus,hd⟩:=bind_some hd
   refine Ag (Ae ?_)
   refine Ab f Z λa f=>l_o f (Bx (f.e Z)) λa f=>BQ underlying193 Z sizeOf191 f Z λa f=>AV 0 1 m hP83 f Z Z Z Z λa f=>Ab f Z λa f=>l_lookup2 1 m oM Z underlying191 underlying80 zeroValue3 f Z Z Z λo ho a f=>Ab f Z λa f=>l_o f (BA (f.e Z) Z) λa f=>l_o f (BA (f.e Z) Z) λa f=>Ac f Z λa f=>Ac f Z λa f=>Az ?_
   refine Ab f Z λa f=>Aa ?_
   cases o with
   |some z=>
    obtain⟨n',hn'⟩:=hc _ (ho z rfl)
    have hzy:z=y:=wAfterR_det hn' hd0
    subst hzy
    refine Al f Z Z ?_
    refine Ae ?_
    refine Ab f Z λa f=>Ac f Z λa f=>Aa ?_
    refine Ao ?_
    exact⟨[.int .i64 z],f.g Z,f.d,G1,[CE bx va vm,itM],hl1,m,_,_,Z,Z,oM,hc⟩
   |none=>
    refine Ai f Z Z ?_
    refine An ?_
    refine Ae ?_
    refine Ac f Z λa f=>Aa (Ag (Ae ?_))
    refine Ab f Z λa f=>l_o f (Bx (f.e Z)) λa f=>BQ underlying193 Z sizeOf76 f Z λa f=>AV 0 0 m hP61 f Z Z Z Z λa f=>AR f Z call72 (Wk.Q m h0 ha) λG2 w hl2 m a f=> ?_
    have h0:=rd1 hl2 h0
    refine Ab f Z λa f=>Aj f Z Z DY λa f=>AA f Z call108 (Wk.q hW m hus) λv3 G3 Ho3 w hl3 m hQ3 a f=> ?_
    obtain⟨vu,itu,rfl,rfl,ou⟩:=hQ3
    have h0:=rd1 hl3 h0
    obtain⟨G4,hl4,m,hu⟩:=ou.stamp (RI.mono _) m
    have h0:=rd1 hl4 h0
    refine AZ underlying133 f Z Z hu λa f=>Ab f Z λa f=>Aa ?_
    have hle4:GLe G G4:=gt hl1 (gt hl2 (gt hl3 hl4))
    refine AM (λa w=>∃(G':GH) (it':Itm) (M':List (Int×Int)),GLe G4 G'∧Fr a 55 [(0,wPtr bx),(1,(.int .u32 k)),(7,(iv y))]∧Mem W G' w (CE bx va vm::it'::H)∧OwMp .u32 (Value.int .i64) it' vm M'∧D7 F M') ?_ ?_
    ·refine Ak ?_
     refine AI (fun(s:Int×Int) a w=>∃(G':GH) (it':Itm) (M':List (Int×Int)),GLe G4 G'∧Fr a 55 [(0,wPtr bx),(1,(.int .u32 k)),(7,(iv s.1)),(35,vu),(36,(iv (us.length:Int))),(37,(iv s.2))]∧Mem W G' w (CE bx va vm::it'::H)∧OwMp .u32 (Value.int .i64) it' vm M'∧D7 F M') hd ⟨_,_,_,gr,f.k Z,m,oM,hc⟩ ?_
     clear hd f m oM hc ho
     rintro⟨best,i⟩ o hs hqq a w ⟨G5,itM,M,hl5,f,m,oM,hc⟩
     dsimp only at f
     have h0:=rd1 hl5 h0
     have hu:=rd1 hl5 hu
     unfold D.S0 at hs
     dsimp only at hs
     refine Ae ?_
     refine Aj f Z Z AP λa f=>Aa (Ag ?_)
     rcases Af hs with⟨hc2,hs⟩|⟨hc2,hs⟩
     ·refine Al f Z hc2 ?_
      refine An ?_
      have⟨v,hv,hs⟩:=bind_some hs
      have⟨z,hz,hs⟩:=bind_some hs
      obtain rfl:=sj hs
      refine Ag (Ak (Ae ?_))
      refine Be hT67 f Z Z Z hu hv λp6 c6 a g6 h6 f=> ?_
      subst h6
      refine AK m hP3 f Z Z g6 λa f=>Ac f Z λa f=>Aa (Ah ?_)
      refine Ab f Z λa f=>Ab f Z λa f=>Ab f Z λa f=>Ab f Z λa f=>AA f Z call184 (Wk.h2 hW ih m h0 oM hc hz) λv7 G7 Ho7 w hl7 m hQ7 a f=> ?_
      obtain⟨itM,M,rfl,rfl,oM,hc⟩:=hQ7
      refine l_o f (r_min2 (f.e Z) (f.e Z)) λa f=>Ac f Z λa f=>Aa (Ah ?_)
      refine Aj f Z Z Ay λa f=>Ab f Z λa f=>Aa ?_
      exact⟨_,Z,G7,_,_,gt hl5 hl7,f.k Z,m,oM,hc⟩
     ·refine Ai f Z hc2 ?_
      refine AG Z ?_
      obtain rfl:=sj hs
      obtain rfl:=hqq _ rfl
      exact⟨G5,_,_,hl5,f.k Z,m,oM,hc⟩
    ·clear hd f m oM hc ho
     rintro a w ⟨G5,itM,M,hl5,f,m,oM,hc⟩
     refine Ae ?_
     refine Ab f Z λa f=>l_o f (Bx (f.e Z)) λa f=>BQ underlying193 Z sizeOf191 f Z λa f=>AV 0 1 m hP83 f Z Z Z Z λa f=>Ab f Z λa f=>Ab f Z λa f=>l_mapUpdate 1 m oM Z underlying191 underlying80 f Z Z Z λit' M' w hM' m oM=>Az ?_
     refine Ab f Z λa f=>Ac f Z λa f=>Aa ?_
     refine Ao ?_
     exact⟨[.int .i64 y],f.g Z,f.d,G5,[CE bx va vm,it'],gt hle4 hl5,m,_,_,Z,Z,oM,λkv hkv=>by
      rcases hM' kv hkv with rfl|h
      ·exact⟨n+1,hd0⟩
      ·exact hc kv h⟩
end Go.Proofs.YtgadoeifdbijcaaGreatDoor

set_option maxRecDepth 100000
namespace Go.Proofs.YtgadoeifdbijcaaGreatDoor
open Go Go.Sx
open Go.Proofs.Tryz Go.Proofs.YtgadoeifdbijcaaGreatDoor.Tryz IntKind
variable {W w : World} {G : GH} {H : List Itm}
theorem T85 :SlT prog 85 75 1 24 sn:=⟨underlying85,Tryz.t75,by kernel_rfl,by kernel_rfl,by kernel_rfl,by kernel_rfl⟩
theorem Pl76 :By prog 76:=isAgg76
theorem Pl85 :By prog 85:=isAgg85
theorem Wk.L {v0:Value}{x0:LI}{x1:Int}(hW:BJ W)(m:Mem W G w (H))(h0:RSl (RI .u32) G v0 x0){y:(LI)}(hd:D.L x0 x1=some y):
  Calls prog 71 #[v0,(.int .u32 x1)] w (Res W G H (λG' Ho v=>∃r0:Value,∃i0:Itm,Ho=[i0]∧r0=v∧Ow (RI .u32) 80 G' i0 r0 y)):=by
 refine Ap (args:=[v0,(.int .u32 x1)]) (N:=23) [.tmp 4] func71 Z Z (lb Z) Z λa f=> ?_
 unfold D.L at hd
 refine Ae ?_
 refine Ac f Z λa f=>Az ?_
 refine AF (R:=(RI .u32)) (xs:=([]:LI)) (RI.one _) m T75 f Z Z Z (by decide) (All2.nil _) λaa ab w a m ac f=>Ac f Z λa f=>Aa (Ag ?_)
 have⟨ad,ae,hd⟩:=bind_some hd
 refine AM (λa w=>∃af:LI,af=ad∧∃(ag:GH) (ah:Value) (ai:Itm),GLe G ag∧Fr a 23 [(5,ah)]∧Mem W ag w (ai::H)∧Ow (RI .u32) 80 ag ai ah af) ?_ ?_
 ·refine Ak ?_
  refine AI (λaj a w=>∃ak:Int,∃al:LI,(ak,al)=aj∧∃(am:GH) (an:Value) (ao:Itm),GLe G am∧Fr a 23 [(0,v0),(1,(.int .u32 ak)),(5,an)]∧Mem W am w (ao::H)∧Ow (RI .u32) 80 am ao an al) ae ⟨_,_,Z,_,ab,aa,gr,f.k Z,m,ac⟩ ?_
  clear ae f m
  rintro aj ap aq ar a w ⟨ak,al,rfl,am,an,ao,au,f,m,av⟩
  have h0:=rd1 au h0
  refine Ag (Ae ?_)
  refine Ab f Z λa f=>Aj f Z Z Dx λa f=>Aa ?_
  rcases Af aq with⟨aw,aq⟩|⟨aw,aq⟩
  ·refine Al f Z aw ?_
   refine An ?_
   refine Ak (Ae ?_)
   refine Ab f Z λa f=>Ab f Z λa f=> ?_
   have⟨ax,ay,aq⟩:=bind_some aq
   refine AR f Z call165 (Wk.C hW m ay) λaz w aA m a f=> ?_
   have h0:=rd1 aA h0
   have av:=od1 aA av
   refine Ab f Z λa f=> ?_
   have⟨aB,aC,aq⟩:=bind_some aq
   refine AR f Z call185 (Wk.J hW m h0 aC) λaD w aE m a f=> ?_
   have av:=od1 aE av
   refine Ac f Z λa f=>Az ?_
   refine Ab f Z λa f=>Ab f Z λa f=>AF (R:=(RI .u32)) (xs:=([aB]:LI)) (RI.one _) m T75 f Z Z Z (by decide) (All2.cons Z (All2.nil _)) λaF aG w a m aH f=> ?_
   have⟨aI,aJ,aq⟩:=bind_some aq
   refine AT (RI.one _) 1 m av Z T75 Z (by decide) f Z Z Z (Ow.src (j:=0) aH m Z) aJ λaK aL w a m aM f=>Ac f Z λa f=>Aa (Ah ?_)
   refine Ab f Z λa f=>Ab f Z λa f=>Aj f Z Z DY λa f=>Ac f Z λa f=>Aa ?_
   have m:=m.fr 1
   have m:=m.eraseAt 1
   obtain rfl:=sj aq
   exact⟨_,Z,_,_,Z,_,aL,aK,(gt au (gt aA aE)),f.k Z,m,aM⟩
  ·refine Ai f Z aw ?_
   refine AG Z ?_
   obtain rfl:=sj aq
   obtain rfl:=ar _ rfl
   exact⟨_,Z,_,an,ao,au,f.k Z,m,av⟩
 ·rintro a w ⟨af,rfl,ag,ah,ai,aN,f,m,aO⟩
  refine Ae ?_
  refine Ab f Z λa f=>Ac f Z λa f=>Aa ?_
  refine Ao ?_
  obtain rfl:=sj hd
  exact⟨[ah],f.g Z,f.d,_,[ai],aN,m,_,_,Z,Z,aO⟩
theorem Wk.m1 {aa:Value}{ab:Itm}{b1:Nat}{ac:Value}{b2:Nat}{x0:Int}{ad:LL}{ae:LI}(hW:BJ W)(m:Mem W G w (ab::ib b1 85 [aa]::ib b2 76 [ac]::H))(af:Ow (RSl (RI .u32)) 75 G ab aa ad)(ag:RSl (RI .u32) G ac ae){y:Bool×(LL)}(hd:D.m1 x0 ad ae=some y):
  Calls prog 70 #[(.int .u32 x0),(pb b1),(pb b2)] w (Res W G H (λG' Ho v=>∃r0:Value,∃i0:Itm,Ho=[ib b1 85 [r0],i0,ib b2 76 [ac]]∧v=(.bool y.1)∧Ow (RSl (RI .u32)) 75 G' i0 r0 y.2)):=by
 refine Ap (args:=[(.int .u32 x0),(pb b1),(pb b2)]) (N:=14) [.tmp 4] func70 Z Z (lb Z) Z λa f=> ?_
 unfold D.m1 at hd
 refine Ae ?_
 refine Ac f Z λa f=>Aa (Ag ?_)
 refine Bp 8 A7 (by kernel_rfl) m ?_
 refine Ce 0 8 1 Pl85 Z Z Z f Z λa f=>Ce 1 8 2 Pl76 Z Z Z f Z λa f=>Ce 2 8 2 Pl76 Z Z Z f Z λa f=> ?_
 have⟨ah,ai,hd⟩:=bind_some hd
 refine B7 (i:=3) 8 Z (by kernel_rfl) Z f Z Z Z call72 (λ_ _ w aj m=>Wk.Q m (rd1 aj ag) ai) λa f=>AJ 4 8 Z f Z λa f=>q_p 5 8 Z f (λ_=>Bm (f.e Z) (f.e Z) DY) λa f=>Bs 6 Z λak w al m am am=> ?_
 have ag:=rd1 al ag
 have af:=Ow.mono (RSl.mono (RI.mono _)) al af
 have⟨an,ao,hd⟩:=bind_some hd
 refine AA f Z call71 (Wk.L hW m ag ao) λap aq ar w au m av a f=> ?_
 obtain⟨aw,ax,rfl,rfl,ay⟩:=av
 have af:=Ow.mono (RSl.mono (RI.mono _)) au af
 refine Aa ?_
 refine am aq [ax] _ _ au m ?_
 refine Bs 7 Z λaz w aA m aB aB=> ?_
 have ay:=od1 aA ay
 have af:=Ow.mono (RSl.mono (RI.mono _)) aA af
 obtain⟨aC,aD,m,aE⟩:=Ow.stamp (RI.mono _) ay m
 have af:=Ow.mono (RSl.mono (RI.mono _)) aD af
 refine AF (R:=(RSl (RI .u32))) (xs:=([an]:LL)) (RSl.one _) m T85 f Z Z Z (by decide) (All2.cons aE (All2.nil _)) λaF aG w a m aH f=>Aa ?_
 refine aB aC [aF] _ _ aD m ?_
 refine Bd λaI w aJ m=> ?_
 have aH:=Ow.mono (RSl.mono (RI.mono _)) aJ aH
 have af:=Ow.mono (RSl.mono (RI.mono _)) aJ af
 have⟨aK,aL,hd⟩:=bind_some hd
 refine AT (RSl.one _) 1 m af Z T85 Z (by decide) f Z Z Z (Ow.src (j:=0) aH m Z) aL λaM aN w a m aO f=>AD 2 0 (ds:=[aN]) m sizeOf85 f Z Z (Ow.cells 1 m aO Z) (AL (Ow.one1 1 m aO Z) AO) Z (lb Z) Z λw m=>Az ?_
 refine Ac f Z λa f=>Aa ?_
 refine Ao ?_
 have m:=m.fr 3
 have m:=m.fr 2
 have m:Mem W aI w (ib b1 85 [aN]::aM::ib b2 76 [ac]::aF::H):=m.fr 3
 have m:=m.eraseAt 3
 obtain rfl:=sj hd
 exact⟨[(.bool false)],f.g Z,f.d,_,[ib b1 85 [aN],aM,ib b2 76 [ac]],(gt al (gt au (gt aA (gt aD aJ)))),m,_,_,Z,Z,aO⟩
end Go.Proofs.YtgadoeifdbijcaaGreatDoor

set_option maxRecDepth 100000
namespace Go.Proofs.YtgadoeifdbijcaaGreatDoor
open Go Go.Sx
open Go.Proofs.Tryz Go.Proofs.YtgadoeifdbijcaaGreatDoor.Tryz IntKind
variable {W w : World} {G : GH} {H : List Itm}
set_option maxHeartbeats 1000000 in
theorem Wk.L1 {W:World}{σ:Type}{f0:Int→σ→Option (Bool×σ)}{its:σ→List Itm}{g:FuncId}{cs:List Value}{G0:GH}
  (hg:∀(ars:Array Value) (w:World),(callFunc g ars).run prog w= .ok (.enter g ars) w)
  (hcl:∀(w:World) (G:GH) (H:List Itm) (c:Int) (s:σ) (y:Bool×σ),GLe G0 G→Mem W G w (its s++H)→f0 c s=some y→Calls prog g ((.int .u32 c)::cs).toArray w (Res W G H (λ_ Ho v=>Ho=its y.2∧v= .bool y.1))) (n:Nat):
  ∀(w:World) (G:GH) (H:List Itm) (nn frm many chosen:Int) (s:σ) (y:Bool×σ),GLe G0 G→Mem W G w (its s++H)→D.m f0 n nn frm many chosen s=some y→
   Calls prog 67 #[(iv nn),(iv frm),(iv many),(.int .u32 chosen),(.func (.func g) #[] cs.toArray)] w (Res W G H (λ_ Ho v=>Ho=its y.2∧v= .bool y.1)):=by
 induction n with
 |zero=>intro w G H nn frm many chosen s y h0 m hd;simp[D.m] at hd
 |succ n ih=>
  intro w G H nn frm many chosen s y h0 m hd
  refine Ap (args:=[(iv nn),(iv frm),(iv many),(.int .u32 chosen),(.func (.func g) #[] cs.toArray)]) (N:=36) [.tmp 10] func67 Z Z (lb Z) Z λa f=> ?_
  unfold D.m at hd
  refine Ae ?_
  refine Ac f Z λa f=>Aa (Ag (Ae ?_))
  refine Ab f Z λa f=>Aj f Z Z BW λa f=>Aa ?_
  rcases Af hd with⟨hc1,hd⟩|⟨hc1,hd⟩
  ·refine Al f Z hc1 ?_
   refine Ae ?_
   refine Ab f Z λa f=>Ab f Z λa f=>DQ f Z Z Z hg (hcl _ _ _ _ _ _ h0 m hd) λv1 G1 Ho1 w hl1 m hQ1 a f=> ?_
   obtain⟨rfl,rfl⟩:=hQ1
   refine Ac f Z λa f=>Aa ?_
   refine Ao ?_
   exact⟨[.bool y.1],f.g Z,f.d,G1,its y.2,hl1,m,Z,Z⟩
  ·refine Ai f Z hc1 ?_
   refine An ?_
   refine Ag (Ae ?_)
   refine Ab f Z λa f=>Ac f Z λa f=>Aa ?_
   refine AM (λa w=>∃(G':GH),GLe G G'∧y.1=false∧Fr a 36 []∧Mem W G' w (its y.2++H)) ?_ ?_
   ·refine Ak ?_
    refine AI (fun(q:σ×Int) a w=>∃(G':GH),GLe G G'∧Fr a 36 [(0,(iv nn)),(2,(iv many)),(3,(.int .u32 chosen)),(4,(.func (.func g) #[] cs.toArray)),(11,(iv q.2))]∧Mem W G' w (its q.1++H)) hd ⟨_,gr,f.k Z,m⟩ ?_
    clear hd f m
    rintro⟨s,v⟩ o hs hqq a w ⟨G1,hl1,f,m⟩
    dsimp only at f m
    unfold D.B at hs
    dsimp only at hs
    refine Ag (Ae ?_)
    refine Ab f Z λa f=>Ab f Z λa f=>Aj f Z Z Ay λa f=>Ab f Z λa f=>Aj f Z Z CN λa f=>Aa ?_
    rcases Af hs with⟨hc2,hs⟩|⟨hc2,hs⟩
    ·refine Al f Z hc2 ?_
     refine An ?_
     have⟨oo,ho,hs⟩:=bind_some hs
     have⟨r,hr,hs⟩:=bind_some hs
     refine Ag (Ak (Ae ?_))
     refine Ab f Z λa f=>Ab f Z λa f=>Aj f Z Z Ay λa f=>Ab f Z λa f=>Aj f Z Z Ct λa f=>Ab f Z λa f=>Ab f Z λa f=>AR f Z call99 (Wk.h m ho) λG2 w hl2 m a f=>Aj f Z Z b_or λa f=>Ab f Z λa f=>AA f Z call67 (ih _ _ _ _ _ _ _ _ _ (gt h0 (gt hl1 hl2)) m hr) λv3 G3 Ho3 w hl3 m hQ3 a f=> ?_
     obtain⟨rfl,rfl⟩:=hQ3
     refine Aa ?_
     have hle:GLe G G3:=gt hl1 (gt hl2 hl3)
     rcases Af hs with⟨hc3,hs⟩|⟨hc3,hs⟩
     ·refine Al f Z hc3 ?_
      obtain rfl:=sj hs
      obtain rfl:=hqq _ rfl
      refine Ae ?_
      refine Ac f Z λa f=>Aa ?_
      refine Ao ?_
      exact⟨[.bool true],f.g Z,f.d,G3,its r.2,hle,m,Z,Z⟩
     ·refine Ai f Z hc3 ?_
      obtain rfl:=sj hs
      refine An ?_
      refine Ah ?_
      refine Ab f Z λa f=>Aj f Z Z Ay λa f=>Ac f Z λa f=>Aa ?_
      exact⟨_,Z,G3,hle,f.k Z,m⟩
    ·refine Ai f Z hc2 ?_
     refine AG Z ?_
     obtain rfl:=sj hs
     obtain rfl:=hqq _ rfl
     exact⟨G1,hl1,Z,f.weak trivial,m⟩
   ·clear hd f m
    rintro a w ⟨G1,hl1,hy,f,m⟩
    refine Ae ?_
    refine Ac f Z λa f=>Aa ?_
    refine Ao ?_
    exact⟨[.bool false],f.g Z,f.d,G1,its y.2,hl1,m,Z,congrArg Value.bool hy.symm⟩
end Go.Proofs.YtgadoeifdbijcaaGreatDoor

set_option maxRecDepth 100000
namespace Go.Proofs.YtgadoeifdbijcaaGreatDoor
open Go Go.Sx
open Go.Proofs.Tryz Go.Proofs.YtgadoeifdbijcaaGreatDoor.Tryz IntKind
variable {W w : World} {G : GH} {H : List Itm}
theorem Pl75 :By prog 75:=isAgg75
theorem Wk.h0 {aa:Value}{b1 b2:Nat}{x0:Int}{ab:LI}{ac:Int}(hW:BJ W)(m:Mem W G w (ib b1 76 [aa]::ib b2 80 [(.int .u32 ac)]::H))(ad:RSl (RI .u32) G aa ab){y:Bool}(hd:D.h0 x0 ab ac=some y):
  Calls prog 187 #[(.int .u32 x0),(pb b1),(pb b2)] w (Res W G H (λ_ Ho v=>Ho=[ib b1 76 [aa],ib b2 80 [(.int .u32 ac)]]∧v=(.bool y))):=by
 refine Ap (args:=[(.int .u32 x0),(pb b1),(pb b2)]) (N:=10) [.tmp 4] func187 Z Z (lb Z) Z λa f=> ?_
 unfold D.h0 at hd
 refine Ae ?_
 refine Ac f Z λa f=>Az ?_
 refine AV 0 0 m Pl76 f Z Z Z Z λa f=>AV 1 0 m Pl80 f Z Z Z Z λa f=>Ab f Z λa f=> ?_
 have⟨ae,af,hd⟩:=bind_some hd
 refine AR f Z call57 (Wk.I hW m ad af) λag w ah m a f=>l_o f (Bc (f.e Z)) λa f=>Ac f Z λa f=>Aa ?_
 refine Ao ?_
 obtain rfl:=sj hd
 exact⟨[(.bool (!ae))],f.g Z,f.d,_,[ib b1 76 [aa],ib b2 80 [(.int .u32 ac)]],ah,m,Z,Z⟩
theorem Wk.q1 {v0 aa:Value}{b1c0 b1c1:Nat}{x0 ab:LI}{ac:Int}(hW:BJ W)(m:Mem W G w (ib b1c0 76 [aa]::ib b1c1 80 [(.int .u32 ac)]::H))(h0:RSl (RI .u32) G v0 x0)(ad:RSl (RI .u32) G aa ab){y:Int}(hd:D.q1 x0 ab ac=some y):
  Calls prog 239 #[v0,(.func (.func 187) #[] #[(pb b1c0),(pb b1c1)])] w (Res W G H (λ_ Ho v=>Ho=[ib b1c0 76 [aa],ib b1c1 80 [(.int .u32 ac)]]∧v=(iv y))):=by
 refine Ap (args:=[v0,(.func (.func 187) #[] #[(pb b1c0),(pb b1c1)])]) (N:=19) [.tmp 4] func239 Z Z (lb Z) Z λa f=> ?_
 unfold D.q1 at hd
 refine Ae ?_
 refine Ac f Z λa f=>Aa (Ag (Ae ?_))
 refine Ab f Z λa f=>AZ underlying75 f Z Z h0 λa f=>Ab f Z λa f=>Aa ?_
 have⟨ae,af,hd⟩:=bind_some hd
 refine AM (λa w=>∃q_33':Unit,ae= .inl q_33'∧∃(ag:GH),GLe G ag∧Fr a 19 []∧Mem W ag w (ib b1c0 76 [aa]::ib b1c1 80 [(.int .u32 ac)]::H)) ?_ ?_
 ·refine Ak ?_
  refine AI (λah a w=>∃ai:Int,ai=ah∧∃(aj:GH),GLe G aj∧Fr a 19 [(0,v0),(1,(.func (.func 187) #[] #[(pb b1c0),(pb b1c1)])),(7,(iv (x0.length:Int))),(8,(iv ai))]∧Mem W aj w (ib b1c0 76 [aa]::ib b1c1 80 [(.int .u32 ac)]::H)) af ⟨_,Z,_,gr,f.k Z,m⟩ ?_
  clear af f m
  rintro ah ak al am a w ⟨ai,rfl,aj,an,f,m⟩
  have h0:=rd1 an h0
  have ad:=rd1 an ad
  refine Ae ?_
  refine Aj f Z Z AP λa f=>Aa (Ag ?_)
  rcases Af al with⟨ao,al⟩|⟨ao,al⟩
  ·refine Al f Z ao ?_
   refine An ?_
   refine Ag (Ak (Ae ?_))
   refine Ab f Z λa f=>Ac f Z λa f=>Az ?_
   refine Ab f Z λa f=>Ab f Z λa f=>Ab f Z λa f=> ?_
   have⟨ap,aq,al⟩:=bind_some al
   refine Be T75 f Z Z Z h0 aq λar au a av aw f=> ?_
   subst aw
   refine AK m Pl80 f Z Z av λa f=> ?_
   have⟨ax,ay,al⟩:=bind_some al
   refine DQ f Z Z Z call187 (Wk.h0 hW m ad ay) λaz aA aB w aC m aD a f=> ?_
   obtain⟨rfl,rfl⟩:=aD
   refine Aa ?_
   rcases Af al with⟨aE,al⟩|⟨aE,al⟩
   ·refine Al f Z aE ?_
    refine Ae ?_
    refine Ab f Z λa f=>Ac f Z λa f=>Aa ?_
    refine Ao ?_
    obtain rfl:=sj al
    obtain rfl:=am _ rfl
    obtain rfl:=sj hd
    exact⟨[(iv ai)],f.g Z,f.d,_,[ib b1c0 76 [aa],ib b1c1 80 [(.int .u32 ac)]],(gt an aC),m,Z,Z⟩
   ·refine Ai f Z aE ?_
    refine An ?_
    refine Ah ?_
    refine Aj f Z Z Ay λa f=>Ab f Z λa f=>Aa ?_
    obtain rfl:=sj al
    exact⟨_,Z,_,Z,_,(gt an aC),f.k Z,m⟩
  ·refine Ai f Z ao ?_
   refine AG Z ?_
   obtain rfl:=sj al
   obtain rfl:=am _ rfl
   exact⟨_,Z,_,an,f.weak trivial,m⟩
 ·rintro a w ⟨_,rfl,ag,aF,f,m⟩
  refine Ae ?_
  refine Ac f Z λa f=>Aa ?_
  refine Ao ?_
  obtain rfl:=sj hd
  exact⟨[(iv (-1))],f.g Z,f.d,_,[ib b1c0 76 [aa],ib b1c1 80 [(.int .u32 ac)]],aF,m,Z,Z⟩
theorem Wk.x0 {v0 aa:Value}{b1c0 b1c1:Nat}{x0 ab:LI}{ac:Int}(hW:BJ W)(m:Mem W G w (ib b1c0 76 [aa]::ib b1c1 80 [(.int .u32 ac)]::H))(h0:RSl (RI .u32) G v0 x0)(ad:RSl (RI .u32) G aa ab){y:Bool}(hd:D.x0 x0 ab ac=some y):
  Calls prog 160 #[v0,(.func (.func 187) #[] #[(pb b1c0),(pb b1c1)])] w (Res W G H (λ_ Ho v=>Ho=[ib b1c0 76 [aa],ib b1c1 80 [(.int .u32 ac)]]∧v=(.bool y))):=by
 refine Ap (args:=[v0,(.func (.func 187) #[] #[(pb b1c0),(pb b1c1)])]) (N:=9) [.tmp 4] func160 Z Z (lb Z) Z λa f=> ?_
 unfold D.x0 at hd
 refine Ae ?_
 refine Ac f Z λa f=>Az ?_
 refine Ab f Z λa f=>Ab f Z λa f=> ?_
 have⟨ae,af,hd⟩:=bind_some hd
 refine AA f Z call239 (Wk.q1 hW m h0 ad af) λag ah ai w aj m ak a f=> ?_
 obtain⟨rfl,rfl⟩:=ak
 refine Aj f Z Z Dv λa f=>Ac f Z λa f=>Aa ?_
 refine Ao ?_
 obtain rfl:=sj hd
 exact⟨[(.bool (decide ((0:Int)≤ae)))],f.g Z,f.d,_,[ib b1c0 76 [aa],ib b1c1 80 [(.int .u32 ac)]],aj,m,Z,Z⟩
theorem Wk.U {W:World}(hW:BJ W)(n:Nat):∀{w:World} {G:GH} {H:List Itm} {v0 v1 v2:Value} {x0:LI} {x1:LL} {x2:LI} (m:Mem W G w (H)) (h0:RSl (RI .u32) G v0 x0) (h1:RSl (RSl (RI .u32)) G v1 x1) (h2:RSl (RI .u32) G v2 x2) {y:(LI)} (hd:D.U n x0 x1 x2=some y),
  Calls prog 73 #[v0,v1,v2] w (Res W G H (λG' Ho v=>∃r0:Value,Ho=[]∧r0=v∧RSl (RI .u32) G' r0 y∧CS r0=y.isEmpty)):=by
 induction n with
 |zero=>intros;rename_i hd;simp[D.U] at hd
 |succ fuel ih=>
  intro w G H v0 v1 v2 x0 x1 x2 m h0 h1 h2 y hd
  refine Ap (args:=[v0,v1,v2]) (N:=41) [.tmp 6] func73 Z Z (lb Z) Z λa f=> ?_
  unfold D.U at hd
  refine Ae ?_
  refine A8 (cs:=[v0]) m f Z Z h0.cells λaa w a m f=>Ac f Z λa f=>Aa (Ag (Ae ?_))
  refine Ab f Z λa f=>AZ underlying75 f Z Z h2 λa f=>Ab f Z λa f=>AZ underlying85 f Z Z h1 λa f=>Aj f Z Z BW λa f=>Aa ?_
  rcases Af hd with⟨ab,hd⟩|⟨ab,hd⟩
  ·refine Al f Z ab ?_
   refine Ae ?_
   refine Ab f Z λa f=>Ac f Z λa f=>Aa ?_
   refine Ao ?_
   have⟨_,ac,hd⟩:=bind_some hd
   have hx_4':=RSl.notNil h2 ac
   have m:Mem W G w H:=Mem.drop (H':=[ib aa 76 [v0]]) m
   obtain rfl:=sj hd
   exact⟨[v2],f.g Z,f.d,_,[],gr,m,_,Z,Z,h2,hx_4'⟩
  ·refine Ai f Z ab ?_
   refine An ?_
   refine Ag (Ae ?_)
   refine Ab f Z λa f=>Ab f Z λa f=>AZ underlying75 f Z Z h2 λa f=> ?_
   have⟨ad,ae,hd⟩:=bind_some hd
   refine Be T85 f Z Z Z h1 ae λaf ag a ah ai f=>AK m Pl75 f Z Z ah λa f=>AZ underlying75 f Z Z ai λa f=>Ab f Z λa f=>Aa ?_
   have⟨aj,ak,hd⟩:=bind_some hd
   refine AM (λa w=>∃q_245':Unit,aj= .inl q_245'∧∃(al:GH),GLe G al∧Fr a 41 []∧Mem W al w (H)) ?_ ?_
   ·refine Ak ?_
    refine AI (λam a w=>∃an:Int,an=am∧∃(ao:GH),GLe G ao∧Fr a 41 [(1,v1),(2,v2),(3,(pb aa)),(20,ag),(21,(iv (ad.length:Int))),(22,(iv an))]∧Mem W ao w (ib aa 76 [v0]::H)) ak ⟨_,Z,_,gr,f.k Z,m⟩ ?_
    clear ak f m
    rintro am ap aq ar a w ⟨an,rfl,ao,au,f,m⟩
    have h1:=rd2 au h1
    have h2:=rd1 au h2
    have ai:=rd1 au ai
    have h0:=rd1 au h0
    refine Ae ?_
    refine Aj f Z Z AP λa f=>Aa (Ag ?_)
    rcases Af aq with⟨av,aq⟩|⟨av,aq⟩
    ·refine Al f Z av ?_
     refine An ?_
     refine Ag (Ak (Ae ?_))
     have⟨aw,ax,aq⟩:=bind_some aq
     refine Be T75 f Z Z Z ai ax λay az a aA aB f=> ?_
     subst aB
     refine AK m Pl80 f Z Z aA λa f=>Bn (cs:=[(.int .u32 0)]) zeroValue80 m f Z Z λaC w a m f=>AD 0 0 (ds:=[(.int .u32 aw)]) m sizeOf80 f Z Z Z (AL Z AO) Z (lb Z) Z λw m=>Aa (Ag (Ae ?_))
     refine Ab f Z λa f=>Df f Z Z Z λa f=> ?_
     have m:=m.fr 1
     have⟨aD,aE,aq⟩:=bind_some aq
     refine AA f Z call160 (Wk.x0 hW m h2 h0 aE) λaF aG aH w aI m aJ a f=> ?_
     obtain⟨rfl,rfl⟩:=aJ
     have h1:=rd2 aI h1
     have h2:=rd1 aI h2
     have h0:=rd1 aI h0
     refine Aa ?_
     rcases Af aq with⟨aK,aq⟩|⟨aK,aq⟩
     ·refine Al f Z aK ?_
      refine AG Z ?_
      refine Ah ?_
      refine Aj f Z Z Ay λa f=>Ab f Z λa f=>Aa ?_
      have m:=m.eraseAt 1
      obtain rfl:=sj aq
      exact⟨_,Z,_,Z,_,(gt au aI),f.k Z,m⟩
     ·refine Ai f Z aK ?_
      refine An ?_
      refine Ag ?_
      have⟨aL,aM,aq⟩:=bind_some aq
      refine AM (λa w=>∃aN:LI,aN=aL∧∃(aO:GH) (aP:Value),GLe aG aO∧Fr a 41 [(1,v1),(2,v2),(3,(pb aa)),(9,aP),(20,ag),(21,(iv (ad.length:Int))),(22,(iv an))]∧Mem W aO w (ib aa 76 [v0]::H)∧RSl (RI .u32) aO aP aN∧CS aP=aN.isEmpty) ?_ ?_
      ·refine Bp 7 A7 (by kernel_rfl) m ?_
       refine Ce 0 7 0 Pl76 Z Z Z f Z λa f=>AJ 1 7 Z f Z λa f=>AJ 2 7 Z f Z λa f=>Ce 4 7 1 Pl80 Z Z Z f Z λa f=>Eb (i:=3) (j:=5) (l1:= #[true,true,true,true,true,false,false,false,false]) (l2:= #[true,true,true,false,true,true,false,false,false]) Z Z (by kernel_rfl) Z Z ?_ ?_
       ·intro aQ w aR m aS aS
        have h1:=rd2 aR h1
        have h2:=rd1 aR h2
        have h0:=rd1 aR h0
        have⟨aT,aU,aM⟩:=bind_some aM
        refine AA f Z call188 (Wk.u0 m h2 aU) λaV aW aX w aY m aZ a f=> ?_
        obtain⟨a0,a1,rfl,rfl,a2⟩:=aZ
        have h1:=rd2 aY h1
        have h0:=rd1 aY h0
        refine Aa ?_
        refine aS aW [a1] _ _ aY m ?_
        refine Bs 5 Z λa3 w a4 m a5 a5=> ?_
        have h1:=rd2 a4 h1
        have h0:=rd1 a4 h0
        have a2:=od1 a4 a2
        refine AF (R:=(RI .u32)) (xs:=([aw]:LI)) (RI.one _) m T75 f Z Z Z (by decide) (All2.cons Z (All2.nil _)) λa6 a7 w a m a8 f=>Aa ?_
        refine a5 a3 [a6,a1] _ _ gr m ?_
        refine Bs 6 Z λa9 w ba m bb bb=> ?_
        have h1:=rd2 ba h1
        have h0:=rd1 ba h0
        have a8:=od1 ba a8
        have a2:=od1 ba a2
        have⟨bc,bd,aM⟩:=bind_some aM
        refine AT (RI.one _) 1 m a2 Z T75 Z (by decide) f Z Z Z (Ow.src (j:=0) a8 m Z) bd λbe bf w a m bg f=>Aa ?_
        refine bb a9 [a6,be] _ _ gr m ?_
        refine Bd λbh w bi m=> ?_
        have h1:=rd2 bi h1
        have h0:=rd1 bi h0
        have bg:=od1 bi bg
        have m:Mem W bh w (be::a6::ib aa 76 [v0]::ib aC 80 [(.int .u32 aw)]::H):=m.fr 1
        obtain⟨bj,bk,m,bl⟩:=Ow.stamp (RI.mono _) bg m
        have h1:=rd2 bk h1
        have h0:=rd1 bk h0
        have⟨bm,bn,aM⟩:=bind_some aM
        refine AA f Z call73 (ih m h0 h1 bl bn) λbo bp bq w br m bs a f=> ?_
        obtain⟨bt,rfl,rfl,bu,bv⟩:=bs
        refine Ac f Z λa f=>Aa ?_
        have m:=m.fr 1
        have m:=m.eraseAt 2
        have m:=m.eraseAt 1
        obtain rfl:=sj aM
        exact⟨_,Z,_,bt,(gt aR (gt aY (gt a4 (gt ba (gt bi (gt bk br)))))),f.k Z,m,bu,bv⟩
       ·intro a3 w a4 m a5 a5
        have⟨aT,aU,aM⟩:=bind_some aM
        have⟨bc,bd,aM⟩:=bind_some aM
        have⟨bm,bn,aM⟩:=bind_some aM
        have h1:=rd2 a4 h1
        have h2:=rd1 a4 h2
        have h0:=rd1 a4 h0
        refine AF (R:=(RI .u32)) (xs:=([aw]:LI)) (RI.one _) m T75 f Z Z Z (by decide) (All2.cons Z (All2.nil _)) λa6 a7 w a m a8 f=>Aa ?_
        refine a5 a3 [a6] _ _ gr m ?_
        refine Bs 3 Z λaQ w aR m aS aS=> ?_
        have h1:=rd2 aR h1
        have h2:=rd1 aR h2
        have h0:=rd1 aR h0
        have a8:=od1 aR a8
        refine AA f Z call188 (Wk.u0 m h2 aU) λaV aW aX w aY m aZ a f=> ?_
        obtain⟨a0,a1,rfl,rfl,a2⟩:=aZ
        have h1:=rd2 aY h1
        have h0:=rd1 aY h0
        have a8:=od1 aY a8
        refine Aa ?_
        refine aS aW [a1,a6] _ _ aY m ?_
        refine Bs 6 Z λa9 w ba m bb bb=> ?_
        have h1:=rd2 ba h1
        have h0:=rd1 ba h0
        have a2:=od1 ba a2
        have a8:=od1 ba a8
        refine AT (RI.one _) 0 m a2 Z T75 Z (by decide) f Z Z Z (Ow.src (j:=1) a8 m Z) bd λbe bf w a m bg f=>Aa ?_
        refine bb a9 [be,a6] _ _ gr m ?_
        refine Bd λbh w bi m=> ?_
        have h1:=rd2 bi h1
        have h0:=rd1 bi h0
        have bg:=od1 bi bg
        obtain⟨bj,bk,m,bl⟩:=Ow.stamp (RI.mono _) bg m
        have h1:=rd2 bk h1
        have h0:=rd1 bk h0
        refine AA f Z call73 (ih m h0 h1 bl bn) λbo bp bq w br m bs a f=> ?_
        obtain⟨bt,rfl,rfl,bu,bv⟩:=bs
        refine Ac f Z λa f=>Aa ?_
        have m:=m.fr 1
        have m:=m.eraseAt 2
        have m:=m.eraseAt 1
        obtain rfl:=sj aM
        exact⟨_,Z,_,bt,(gt a4 (gt aR (gt aY (gt ba (gt bi (gt bk br)))))),f.k Z,m,bu,bv⟩
      ·rintro a w ⟨aN,rfl,aO,aP,bw,f,m,bx,bz⟩
       refine Ae ?_
       refine Ab f Z λa f=>l_o f (r_nil_neq (f.e Z) (f.e Z) bx.hdr underlying75 bz) λa f=>Aa ?_
       rcases Af aq with⟨bA,aq⟩|⟨bA,aq⟩
       ·refine Al f Z bA ?_
        refine Ae ?_
        refine Ab f Z λa f=>Ac f Z λa f=>Aa ?_
        refine Ao ?_
        have m:Mem W aO w H:=Mem.drop (H':=[ib aa 76 [v0]]) m
        obtain rfl:=sj aq
        obtain rfl:=ar _ rfl
        obtain rfl:=sj hd
        exact⟨[aP],f.g Z,f.d,_,[],(gt au (gt aI bw)),m,_,Z,Z,bx,bz⟩
       ·refine Ai f Z bA ?_
        refine An ?_
        refine Ah ?_
        refine Aj f Z Z Ay λa f=>Ab f Z λa f=>Aa ?_
        obtain rfl:=sj aq
        exact⟨_,Z,_,Z,_,(gt au (gt aI bw)),f.k Z,m⟩
    ·refine Ai f Z av ?_
     refine AG Z ?_
     have m:Mem W ao w H:=Mem.drop (H':=[ib aa 76 [v0]]) m
     obtain rfl:=sj aq
     obtain rfl:=ar _ rfl
     exact⟨_,Z,_,au,f.weak trivial,m⟩
   ·rintro a w ⟨_,rfl,al,bB,f,m⟩
    refine Ae ?_
    refine Ac f Z λa f=>Aa ?_
    refine Ao ?_
    have bC:=RSl.nil (RI .u32) al
    obtain rfl:=sj hd
    exact⟨[sn],f.g Z,f.d,_,[],bB,m,_,Z,Z,bC,Z⟩
theorem Wk.f {v0 v1 v2:Value}{x0:LI}{x1:LL}{x2:LI}(hW:BJ W)(m:Mem W G w (H))(h0:RSl (RI .u32) G v0 x0)(h1:RSl (RSl (RI .u32)) G v1 x1)(h2:RSl (RI .u32) G v2 x2){y:(LI)}(hd:D.f x0 x1 x2=some y):
  Calls prog 73 #[v0,v1,v2] w (Res W G H (λG' Ho v=>∃r0:Value,Ho=[]∧r0=v∧RSl (RI .u32) G' r0 y∧CS r0=y.isEmpty)):=by
 exact Wk.U hW Bo m h0 h1 h2 hd
theorem Wk.A0 {v0:Value}{x0:LI}(m:Mem W G w (H))(h0:R1 G v0 x0){y:(LI)}(hd:D.A0 x0=some y):
  Calls prog 193 #[v0] w (Res W G H (λG' Ho v=>∃r0:Value,∃i0:Itm,Ho=[i0]∧r0=v∧Ow R0 2 G' i0 r0 y)):=by
 refine Ap (args:=[v0]) (N:=21) [.tmp 2] func193 Z Z (lb Z) Z λa f=> ?_
 unfold D.A0 at hd
 refine Ae ?_
 refine Ac f Z λa f=>Az ?_
 refine Ab f Z λa f=>AZ underlying133 f Z Z h0 λa f=> ?_
 have⟨aa,ab,hd⟩:=bind_some hd
 refine l_make (R:=R0) m T33 Z (by decide) Z f Z Z Z ab λac ad w a m ae f=>Ac f Z λa f=>Aa (Ag (Ae ?_))
 refine Ab f Z λa f=>AZ underlying133 f Z Z h0 λa f=>Ab f Z λa f=>Aa ?_
 have⟨af,ag,hd⟩:=bind_some hd
 refine AM (λa w=>∃ah:LI,ah=af∧∃(ai:GH) (aj:Value) (ak:Itm),GLe G ai∧Fr a 21 [(3,aj)]∧Mem W ai w (ak::H)∧Ow R0 2 ai ak aj ah) ?_ ?_
 ·refine Ak ?_
  refine AI (λal a w=>∃am:LI,∃an:Int,(am,an)=al∧∃(ao:GH) (ap:Value) (aq:Itm),GLe G ao∧Fr a 21 [(3,ap),(9,v0),(10,(iv (x0.length:Int))),(11,(iv an))]∧Mem W ao w (aq::H)∧Ow R0 2 ao aq ap am) ag ⟨_,_,Z,_,ad,ac,gr,f.k Z,m,ae⟩ ?_
  clear ag f m
  rintro al ar au av a w ⟨am,an,rfl,ao,ap,aq,aw,f,m,ax⟩
  have h0:=rd1 aw h0
  refine Ae ?_
  refine Aj f Z Z AP λa f=>Aa (Ag ?_)
  rcases Af au with⟨ay,au⟩|⟨ay,au⟩
  ·refine Al f Z ay ?_
   refine An ?_
   refine Ag (Ak (Ae ?_))
   have⟨az,aA,au⟩:=bind_some au
   refine Be T133 f Z Z Z h0 aA λaB aC a aD aE f=> ?_
   subst aE
   refine AK m Pl3 f Z Z aD λa f=>Ac f Z λa f=>Aa (Ah ?_)
   refine Ab f Z λa f=>Ab f Z λa f=>AF (R:=R0) (xs:=([az]:LI)) (RI.one _) m T33 f Z Z Z (by decide) (All2.cons Z (All2.nil _)) λaF aG w a m aH f=> ?_
   have⟨aI,aJ,au⟩:=bind_some au
   refine AT (RI.one _) 1 m ax Z T33 Z (by decide) f Z Z Z (Ow.src (j:=0) aH m Z) aJ λaK aL w a m aM f=>Ac f Z λa f=>Aa (Ah ?_)
   refine Aj f Z Z Ay λa f=>Ab f Z λa f=>Aa ?_
   have m:=m.fr 1
   have m:=m.eraseAt 1
   obtain rfl:=sj au
   exact⟨_,Z,_,_,Z,_,aL,aK,aw,f.k Z,m,aM⟩
  ·refine Ai f Z ay ?_
   refine AG Z ?_
   obtain rfl:=sj au
   obtain rfl:=av _ rfl
   exact⟨_,Z,_,ap,aq,aw,f.k Z,m,ax⟩
 ·rintro a w ⟨ah,rfl,ai,aj,ak,aN,f,m,aO⟩
  refine Ae ?_
  refine Ab f Z λa f=>Ac f Z λa f=>Aa ?_
  refine Ao ?_
  obtain rfl:=sj hd
  exact⟨[aj],f.g Z,f.d,_,[ak],aN,m,_,_,Z,Z,aO⟩
theorem Wk.b0 {x0:Int}(hW:BJ W)(m:Mem W G w (H)){y:(LI)}(hd:D.b0 x0=some y):
  Calls prog 78 #[(.int .u32 x0)] w (Res W G H (λG' Ho v=>∃r0:Value,∃i0:Itm,Ho=[i0]∧r0=v∧Ow R0 2 G' i0 r0 y)):=by
 refine Ap (args:=[(.int .u32 x0)]) (N:=6) [.tmp 2] func78 Z Z (lb Z) Z λa f=> ?_
 unfold D.b0 at hd
 refine Ae ?_
 refine Ac f Z λa f=>Az ?_
 refine Ab f Z λa f=> ?_
 have⟨aa,ab,hd⟩:=bind_some hd
 refine AA f Z call108 (Wk.q hW m ab) λac ad ae w af m ag a f=> ?_
 obtain⟨ah,ai,rfl,rfl,aj⟩:=ag
 have⟨ak,al,hd⟩:=bind_some hd
 refine AA f Z call193 (Ow.lendCall (RI.mono _) 0 aj m Z (λam an m ao=>Wk.A0 m ao al) (λ_ G' _ _ ⟨a0,a1,e1,e2,o0⟩=>⟨a0,a1,e1,e2,Ow.free (RI.free _) G' o0⟩)) λap aq ar w au m av a f=> ?_
 obtain⟨aw,ax,rfl,rfl,ay⟩:=av
 refine Ac f Z λa f=>Aa ?_
 refine Ao ?_
 have m:=m.eraseAt 1
 obtain rfl:=sj hd
 exact⟨[aw],f.g Z,f.d,_,[ax],(gt af au),m,_,_,Z,Z,ay⟩
theorem Wk.T0 {v0:Value}{x0:LI}(hW:BJ W)(m:Mem W G w (H))(h0:RSl (RI .u32) G v0 x0){y:(LL)}(hd:D.T0 x0=some y):
  Calls prog 75 #[v0] w (Res W G H (λG' Ho v=>∃r0:Value,∃i0:Itm,Ho=[i0]∧r0=v∧Ow2 R0 33 2 G' i0 r0 y)):=by
 refine Ap (args:=[v0]) (N:=20) [.tmp 2] func75 Z Z (lb Z) Z λa f=> ?_
 unfold D.T0 at hd
 refine Ae ?_
 refine Ac f Z λa f=>Az ?_
 refine AF (R:=RawS) (xs:=[]) RawS.one m T24 f Z Z Z (by decide) (All2.nil _) λaa ab w a m ac f=> ?_
 obtain⟨ad,m,ae⟩:=Ow2.of_empty R0 2 m ac
 refine Ac f Z λa f=>Aa (Ag (Ae ?_))
 refine Ab f Z λa f=>AZ underlying75 f Z Z h0 λa f=>Ab f Z λa f=>Aa ?_
 have⟨af,ag,hd⟩:=bind_some hd
 refine AM (λa w=>∃ah:LL,ah=af∧∃(ai:GH) (aj:Value) (ak:Itm),GLe G ai∧Fr a 20 [(3,aj)]∧Mem W ai w (ak::H)∧Ow2 R0 33 2 ai ak aj ah) ?_ ?_
 ·refine Ak ?_
  refine AI (λal a w=>∃am:LL,∃an:Int,(am,an)=al∧∃(ao:GH) (ap:Value) (aq:Itm),GLe G ao∧Fr a 20 [(3,ap),(7,v0),(8,(iv (x0.length:Int))),(9,(iv an))]∧Mem W ao w (aq::H)∧Ow2 R0 33 2 ao aq ap am) ag ⟨_,_,Z,_,ab,ad,gr,f.k Z,m,ae⟩ ?_
  clear ag f m
  rintro al ar au av a w ⟨am,an,rfl,ao,ap,aq,aw,f,m,ax⟩
  have h0:=rd1 aw h0
  refine Ae ?_
  refine Aj f Z Z AP λa f=>Aa (Ag ?_)
  rcases Af au with⟨ay,au⟩|⟨ay,au⟩
  ·refine Al f Z ay ?_
   refine An ?_
   refine Ag (Ak (Ae ?_))
   have⟨az,aA,au⟩:=bind_some au
   refine Be T75 f Z Z Z h0 aA λaB aC a aD aE f=> ?_
   subst aE
   refine AK m Pl80 f Z Z aD λa f=>Ac f Z λa f=>Aa (Ah ?_)
   refine Ab f Z λa f=>Ab f Z λa f=> ?_
   have⟨aF,aG,au⟩:=bind_some au
   refine AA f Z call78 (Wk.b0 hW m aG) λaH aI aJ w aK m aL a f=> ?_
   obtain⟨aM,aN,rfl,rfl,aO⟩:=aL
   have ax:=od2 aK ax
   refine AF (R:=RawS) (xs:=[aM]) RawS.one m T24 f Z Z Z (by decide) (All2.cons ⟨Z,Ow.one1 0 m aO Z,Ow.cells 0 m aO Z⟩ (All2.nil _)) λaP aQ w a m aR f=> ?_
   have m:=m.fr 1
   have m:=m.fr 2
   have⟨aS,aT,au⟩:=bind_some au
   refine l_append2 m ax aO aR T24 Z (by decide) f Z Z Z aT λaU aV w a m aW f=>Ac f Z λa f=>Aa (Ah ?_)
   refine Aj f Z Z Ay λa f=>Ab f Z λa f=>Aa ?_
   obtain rfl:=sj au
   exact⟨_,Z,_,_,Z,_,aV,aU,(gt aw aK),f.k Z,m,aW⟩
  ·refine Ai f Z ay ?_
   refine AG Z ?_
   obtain rfl:=sj au
   obtain rfl:=av _ rfl
   exact⟨_,Z,_,ap,aq,aw,f.k Z,m,ax⟩
 ·rintro a w ⟨ah,rfl,ai,aj,ak,aX,f,m,aY⟩
  refine Ae ?_
  refine Ab f Z λa f=>Ac f Z λa f=>Aa ?_
  refine Ao ?_
  obtain rfl:=sj hd
  exact⟨[aj],f.g Z,f.d,_,[ak],aX,m,_,_,Z,Z,aY⟩
end Go.Proofs.YtgadoeifdbijcaaGreatDoor
