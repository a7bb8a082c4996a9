/- Parts. -/
import Derived.Test.YtljcmdbpfeffcaaGreatDoorTa2
import Derived.Test.YtljcmdbpfeffcaaGreatDoorProg
import Derived.KernelRfl
set_option linter.unusedVariables false
set_option linter.unusedSimpArgs false
set_option linter.unusedSectionVars false
set_option maxRecDepth 100000
namespace Go.Proofs.YtljcmdbpfeffcaaGreatDoor
open Go Go.Sx
open Go.Proofs.Tryz Go.Proofs.YtljcmdbpfeffcaaGreatDoor.Tryz IntKind
variable {W w : World} {G : GH} {H : List Itm}
theorem DH :Agg prog 32 2:=⟨isAgg32,sizeOf32⟩
theorem T67 :SlT prog 67 74 1 4 (.int .u32 0):=⟨underlying67,Tryz.t74,by kernel_rfl,by kernel_rfl,by kernel_rfl,by kernel_rfl⟩
theorem CU :Cj prog 74:=isAgg74
theorem T65 :SlT prog 65 74 1 4 (.int .u32 0):=⟨underlying65,Tryz.t74,by kernel_rfl,by kernel_rfl,by kernel_rfl,by kernel_rfl⟩
theorem T82 :SlT prog 82 3 1 8 (iv 0):=⟨underlying82,Tryz.t3,by kernel_rfl,by kernel_rfl,by kernel_rfl,by kernel_rfl⟩
theorem Wk.w1 {aa v1:Value}{ab:LL}{x1:LI}(m:Mem W G w (H))(ac:R2 G aa ab)(h1:R1 G v1 x1){y:(LL)}(hd:D.w1 ab x1=some y):
  Calls prog 24 #[(.agg #[aa]),v1] w (Res W G H (λG' Ho v=>∃r0:Value,∃i0:Itm,Ho=[i0]∧r0=v∧Ow R1 35 G' i0 r0 y)):=by
 refine Au (args:=[(.agg #[aa]),v1]) (N:=44) [.tmp 4] func24 Z Z (lb Z) Z λa f=> ?_
 unfold D.w1 at hd
 refine Ae (A3 (cs:=[aa]) m f Z Z Z λad w a m f=>Ac f Z λa f=>AF (Ay 0 0 (ds:=[aa]) m Bh f Z Z Z Z Z λa f=>Ab f Z λa f=>Bd hd λae af hd=>A9 f Z call82 (Wk.L0 m ac h1 af) λag ah ai w aj m ak a f=> ?_))
 obtain⟨al,am,rfl,rfl,an⟩:=ak
 refine have ac:=rd2 aj ac;have h1:=rd1 aj h1;Bp (cs:=[sn]) zeroValue29 m f Z Z λao w a m f=>Ax 0 0 (ds:=[al]) m sizeOf29 f Z Z Z (Af (Ow.one1 1 m an Z) AG) Z (lb Z) Z λw m=>AF (Ay 2 0 (ds:=[aa]) m Bh f Z Z Z Z Z λa f=>Bd hd λap aq hd=>A2 f Z call83 (Wk.d m ac aq) λar w au m a f=>have ac:=rd2 au ac;have h1:=rd1 au h1;have an:=od3 au an;Bd hd λav aw hd=>Cy (R:=RB) m T118 Z (by decide) Z f Z Z Z aw λax ay w a m az f=>Ac f Z λa f=>AF (Ay 3 0 (ds:=[aa]) m Bh f Z Z Z Z Z λa f=>Bd hd λaA aB hd=>A2 f Z call83 (Wk.d m ac aB) λaC w aD m a f=>have h1:=rd1 aD h1;have az:=Ow.mono RB.mono aD az;have an:=od3 aD an;Bd hd λaE aF hd=>Cy (R:=R1) m T27 Z (by decide) (RSl.nil R0 aC) f Z Z Z aF λaG aH w a m aI f=>Ac f Z λa f=>Aa (Ah (Ae (Ac f Z λa f=>Aa (Bd hd λaJ aK hd=> ?_))))))
 refine AL (λa w=>∃aL:LL,aL=aJ∧∃(aM:GH) (aN:Itm),GLe aC aM∧Fr a 44 [(7,aH)]∧Mem W aM w (aN::H)∧Ow R1 35 aM aN aH aL) ?_ ?_
 ·refine Al (have m:=m.fr 1;have m:=m.fr 2;have m:=m.eraseAt 4;AM (λaO a w=>∃aP:List Bool,∃aQ:LL,∃aR:Int,(aP,aQ,aR)=aO∧∃(aS:GH) (aT:Itm) (aU:Itm),GLe aC aS∧Fr a 44 [(1,v1),(5,pb ao),(6,ay),(7,aH),(8,iv aR)]∧Mem W aS w (ib ao 29 [al]::aT::aU::am::H)∧Ow RB 4 aS aT ay aP∧Ow R1 35 aS aU aH aQ) aK ⟨_,_,_,Z,_,ax,aG,gr,f.k Z,m,az,aI⟩ ?_)
  clear aK f m
  rintro aO aV aW aX a w ⟨aP,aQ,aR,rfl,aS,aT,aU,aY,f,m,aZ,a2⟩
  refine have h1:=rd1 aY h1;have an:=od3 aY an;Ah (Ae (Ab f Z λa f=>Ab f Z λa f=>AN underlying35 f Z Z h1 λa f=>Ai f Z Z AP λa f=>Aa ?_))
  rcases Ag aW with⟨a3,aW⟩|⟨a3,aW⟩
  ·refine Am f Z a3 (An (Ah (Al (Ae (Ab f Z λa f=>Ab f Z λa f=>Ab f Z λa f=>Bd aW λa4 a5 aW=>AX T35 f Z Z Z h1 a5 λa6 a7 a a8 a9 f=> ?_)))))
   subst a9
   refine Aw m Pl2 f Z Z a8 λa f=>Bd aW λba bb aW=>Bm 1 m aZ Z T118 f Z Z Z bb λbc a bd f=>Ci 1 m aZ Z sizeOf4 f Z Z bd bb Z Z Z λbe w m bf=>Aa (Bg 13 AV (by kernel_rfl) m (As 0 13 Z f Z λa f=>As 1 13 Z f Z λa f=>As 2 13 Z f Z λa f=>Bd aW λbg bh aW=>Bb 3 13 T35 h1 bh Z f Z Z λbi bj a bk bl f=> ?_))
   subst bl
   refine Ba 4 13 Pl2 bk Z f Z λa f=>Bc (i:=5) (ds:=[al]) 13 0 Bh Z Z Z Z (by kernel_rfl) Z f Z Z Z λa f=>As 6 13 Z f Z λa f=>As 7 13 Z f Z λa f=>Bd aW λbm bn aW=>Bb 8 13 T35 h1 bn Z f Z Z λbo bp a bq br f=> ?_
   subst br
   refine Ba 9 13 Pl2 bq Z f Z λa f=>As 10 13 Z f Z λa f=>Bw 11 Z λbs w bt m bu bu=>have bf:=Ow.mono RB.mono bt bf;have a2:=od3 bt a2;have an:=od3 bt an;Bd aW λbv bw aW=>BK f Z call84 (Ow.lendCall (RSl.mono (RI.mono _)) 3 an m Z (λbx bz m bA=>(Ow.lendCall RB.mono 1 (Ow.mono RB.mono bz bf) m Z (λbB bC m bD=>Wk.u0 m (rd2 bC bA) bD bw) (λ_ G' _ _ ⟨a0,a1,e1,e2,o0⟩=>⟨a0,a1,e1,e2,Ow.free (RI.free _) G' o0⟩))) (λ_ G' _ _ ⟨a0,a1,e1,e2,o0⟩=>⟨a0,a1,e1,e2,Ow.free (RI.free _) G' o0⟩)) λbE bF bG w bH m bI a f=>have bf:=Ow.mono RB.mono bH bf;have a2:=od3 bH a2;Aa (bu bG [bF] _ _ bH m (Bd aW λbJ bK aW=>DD 12 13 3 m a2 T27 bK Z f Z Z λbL a bM f=>A4 λbN w bO m=>have bI:=od1 bO bI;have bf:=Ow.mono RB.mono bO bf;have a2:=od3 bO a2;?_))
   obtain⟨bP,bQ,m,bR⟩:=Ow.stamp (RI.mono _) bI m
   refine have bf:=Ow.mono RB.mono bQ bf;have a2:=od3 bQ a2;Ci 2 m a2 Z sizeOf35 f Z Z bM bK bR.cells bR.one1 bR λbS w m bT=>Aa (Aj (Ab f Z λa f=>Ai f Z Z AB λa f=>Ac f Z λa f=>Aa ?_))
   obtain rfl:=sj aW
   exact⟨_,Z,_,_,_,Z,_,be,bS,(gt aY (gt bt (gt bH (gt bO bQ)))),f.k Z,m,bf,bT⟩
  ·refine Ak f Z a3 (AE Z (have m:=m.fr 2;have m:=m.fr 3;have m:=m.fr 3;have m:Mem W aS w (aU::aT::am::ib ao 29 [al]::H):=m.fr 2;have m:=m.eraseAt 3;have m:=m.eraseAt 2;have m:=m.eraseAt 1;?_))
   obtain rfl:=sj aW
   obtain rfl:=aX _ rfl
   exact⟨_,Z,_,aU,aY,f.k Z,m,a2⟩
 ·rintro a w ⟨aL,rfl,aM,aN,bU,f,m,bV⟩
  refine Ae (Ab f Z λa f=>Ac f Z λa f=>Aa (Ar ?_))
  obtain rfl:=sj hd
  exact⟨[aH],f.g Z,f.d,_,[aN],(gt aj (gt au (gt aD bU))),m,_,_,Z,Z,bV⟩
theorem Wk.x0 {x0 x1:Int}(m:Mem W G w (H)){y:Int}(hd:D.x0 x0 x1=some y):
  Calls prog 85 #[iv x0,iv x1] w (Res W G H (λ_ Ho v=>Ho=[]∧v=(iv y))):=by
 refine Au (args:=[iv x0,iv x1]) (N:=10) [.tmp 4] func85 Z Z (lb Z) Z λa f=> ?_
 unfold D.x0 at hd
 refine Ae (Ac f Z λa f=>Aa (Ah (Ae (Ab f Z λa f=>Ab f Z λa f=>Ai f Z Z AP λa f=>Aa ?_))))
 rcases Ag hd with⟨aa,hd⟩|⟨aa,hd⟩
 ·refine Am f Z aa (Ae (Ab f Z λa f=>Ac f Z λa f=>Aa (Ar ?_)))
  obtain rfl:=sj hd
  exact⟨[iv x0],f.g Z,f.d,_,[],gr,m,Z,Z⟩
 ·refine Ak f Z aa (An (Ae (Ab f Z λa f=>Ac f Z λa f=>Aa (Ar ?_))))
  obtain rfl:=sj hd
  exact⟨[iv x1],f.g Z,f.d,_,[],gr,m,Z,Z⟩
theorem Wk.M {x0 x1:Int}(m:Mem W G w (H)){y:Int}(hd:D.M x0 x1=some y):
  Calls prog 77 #[iv x0,iv x1] w (Res W G H (λ_ Ho v=>Ho=[]∧v=(iv y))):=by
 refine Au (args:=[iv x0,iv x1]) (N:=10) [.tmp 4] func77 Z Z (lb Z) Z λa f=> ?_
 unfold D.M at hd
 refine Ae (Ac f Z λa f=>Aa (Ah (Ae (Ab f Z λa f=>Ab f Z λa f=>Ai f Z Z CK λa f=>Aa ?_))))
 rcases Ag hd with⟨aa,hd⟩|⟨aa,hd⟩
 ·refine Am f Z aa (Ae (Ab f Z λa f=>Ac f Z λa f=>Aa (Ar ?_)))
  obtain rfl:=sj hd
  exact⟨[iv x0],f.g Z,f.d,_,[],gr,m,Z,Z⟩
 ·refine Ak f Z aa (An (Ae (Ab f Z λa f=>Ac f Z λa f=>Aa (Ar ?_))))
  obtain rfl:=sj hd
  exact⟨[iv x1],f.g Z,f.d,_,[],gr,m,Z,Z⟩
theorem Wk.f0 {v0 v1:Value}{x0 x1:LI}(m:Mem W G w (H))(h0:R1 G v0 x0)(h1:R1 G v1 x1){y:Bool}(hd:D.f0 x0 x1=some y):
  Calls prog 86 #[v0,v1] w (Res W G H (λ_ Ho v=>Ho=[]∧v=(.bool y))):=by
 refine Au (args:=[v0,v1]) (N:=40) [.tmp 4] func86 Z Z (lb Z) Z λa f=> ?_
 unfold D.f0 at hd
 refine Ae (Ac f Z λa f=>Aa (Ah (Ae (Ab f Z λa f=>AN underlying35 f Z Z h0 λa f=>Ab f Z λa f=>AN underlying35 f Z Z h1 λa f=>Ai f Z Z Cw λa f=>Aa ?_))))
 rcases Ag hd with⟨aa,hd⟩|⟨aa,hd⟩
 ·refine Am f Z aa (Ae (Ab f Z λa f=>AN underlying35 f Z Z h0 λa f=>Ab f Z λa f=>AN underlying35 f Z Z h1 λa f=>Ai f Z Z AP λa f=>Ac f Z λa f=>Aa (Ar ?_)))
  obtain rfl:=sj hd
  exact⟨[(.bool (decide ((x0.length:Int)<(x1.length:Int))))],f.g Z,f.d,_,[],gr,m,Z,Z⟩
 ·refine Ak f Z aa (An (Ah (Ae (Ac f Z λa f=>Aa (Bd hd λab ac hd=> ?_)))))
  refine AL (λa w=>∃q_64':Unit,ab= .inl q_64'∧∃(ad:GH),GLe G ad∧Fr a 40 []∧Mem W ad w (H)) ?_ ?_
  ·refine Al (AM (λae a w=>∃af:Int,af=ae∧∃(ag:GH),GLe G ag∧Fr a 40 [(0,v0),(1,v1),(5,iv af)]∧Mem W ag w (H)) ac ⟨_,Z,_,gr,f.k Z,m⟩ ?_)
   clear ac f m
   rintro ae ah ai aj a w ⟨af,rfl,ag,ak,f,m⟩
   refine have h0:=rd1 ak h0;have h1:=rd1 ak h1;Ah (Ae (Ab f Z λa f=>Ab f Z λa f=>AN underlying35 f Z Z h0 λa f=>Ai f Z Z AP λa f=>Aa ?_))
   rcases Ag ai with⟨al,ai⟩|⟨al,ai⟩
   ·refine Am f Z al (An (Ah (Al (Ah (Bg 9 AV (by kernel_rfl) m (As 0 9 Z f Z λa f=>As 1 9 Z f Z λa f=>Bd ai λam an ai=>Bb 2 9 T35 h0 an Z f Z Z λao ap a aq ar f=> ?_))))))
    subst ar
    refine Ba 3 9 Pl2 aq Z f Z λa f=>As 4 9 Z f Z λa f=>As 5 9 Z f Z λa f=>Bd ai λau av ai=>Bb 6 9 T35 h1 av Z f Z Z λaw ax a ay az f=> ?_
    subst az
    refine Ba 7 9 Pl2 ay Z f Z λa f=>q_p 8 9 Z f (λ_=>BB (f.e Z) (f.e Z) Cw) λa f=>A4 λaA w aB m=>have h0:=rd1 aB h0;have h1:=rd1 aB h1;Aa ?_
    rcases Ag ai with⟨aC,ai⟩|⟨aC,ai⟩
    ·refine Am f Z aC (Ah (Bg 10 AV (by kernel_rfl) m (As 0 10 Z f Z λa f=>As 1 10 Z f Z λa f=>Bd ai λaD aE ai=>Bb 2 10 T35 h0 aE Z f Z Z λaF aG a aH aI f=> ?_)))
     subst aI
     refine Ba 3 10 Pl2 aH Z f Z λa f=>As 4 10 Z f Z λa f=>As 5 10 Z f Z λa f=>Bd ai λaJ aK ai=>Bb 6 10 T35 h1 aK Z f Z Z λaL aM a aN aO f=> ?_
     subst aO
     refine Ba 7 10 Pl2 aN Z f Z λa f=>q_p 8 10 Z f (λ_=>BB (f.e Z) (f.e Z) AP) λa f=>q_p 9 10 Z f (λ_=>Bq (f.e Z)) λa f=>A4 λaP w aQ m=>Aa (Ar ?_)
     obtain rfl:=sj ai
     obtain rfl:=aj _ rfl
     obtain rfl:=sj hd
     exact⟨[(.bool (decide (aD<aJ)))],f.g Z,f.d,_,[],(gt ak (gt aB aQ)),m,Z,Z⟩
    ·refine Ak f Z aC (An (Aj (Ab f Z λa f=>Ai f Z Z AB λa f=>Ac f Z λa f=>Aa ?_)))
     obtain rfl:=sj ai
     exact⟨_,Z,_,Z,_,(gt ak aB),f.k Z,m⟩
   ·refine Ak f Z al (AE Z ?_)
    obtain rfl:=sj ai
    obtain rfl:=aj _ rfl
    exact⟨_,Z,_,ak,f.weak trivial,m⟩
  ·rintro a w ⟨_,rfl,ad,aR,f,m⟩
   refine Ae (Ac f Z λa f=>Aa (Ar ?_))
   obtain rfl:=sj hd
   exact⟨[(.bool false)],f.g Z,f.d,_,[],aR,m,Z,Z⟩
theorem Wk.s1 {v0:Value}{x0:LL}{x1 x2:Int}(m:Mem W G w (H))(h0:R2 G v0 x0){y:(LL)}(hd:D.s1 x0 x1 x2=some y):
  Calls prog 28 #[v0,iv x1,iv x2] w (Res W G H (λG' Ho v=>∃r0:Value,∃i0:Itm,Ho=[i0]∧r0=v∧Ow R1 35 G' i0 r0 y)):=by
 refine Au (args:=[v0,iv x1,iv x2]) (N:=53) [.tmp 6] func28 Z Z (lb Z) Z λa f=> ?_
 unfold D.s1 at hd
 refine Ae (Ac f Z λa f=>AF (Ab f Z λa f=>Ab f Z λa f=>Bd hd λaa ab hd=>A2 f Z call85 (Wk.x0 m ab) λac w ad m a f=>have h0:=rd2 ad h0;Ab f Z λa f=>Ab f Z λa f=>Bd hd λae af hd=>A2 f Z call77 (Wk.M m af) λag w ah m a f=>have h0:=rd2 ah h0;AO (R:=R0) (xs:=([aa,ae]:LI)) (RI.one _) m T35 f Z Z Z (by decide) (All2.cons Z (All2.cons Z (All2.nil _))) λai aj w a m ak f=>Ac f Z λa f=>AF (AO (R:=R1) (xs:=([]:LL)) (RSl.one _) m T27 f Z Z Z (by decide) (All2.nil _) λal am w a m an f=>Ac f Z λa f=>AF (Ac f Z λa f=>Aa (Ah (Ae (Ac f Z λa f=>Aa (have m:=m.fr 1;?_))))))))
 obtain⟨ao,ap,m,aq⟩:=Ow.stamp (RI.mono _) ak m
 refine have h0:=rd2 ap h0;have an:=od3 ap an;Bd hd λar au hd=> ?_
 refine AL (λa w=>∃av:LI,∃aw:LL,∃ax:Bool,(av,aw,ax)=ar∧∃(ay:GH) (az:Value) (aA:Value) (aB:Itm),GLe ao ay∧Fr a 53 [(7,az),(8,aA),(9,(.bool ax))]∧Mem W ay w (aB::H)∧R1 ay az av∧Ow R1 35 ay aB aA aw) ?_ ?_
 ·refine Al (AM (λaC a w=>∃aD:LI,∃aE:LL,∃aF:Bool,∃aG:Int,(aD,aE,aF,aG)=aC∧∃(aH:GH) (aI:Value) (aJ:Value) (aK:Itm),GLe ao aH∧Fr a 53 [(0,v0),(7,aI),(8,aJ),(9,(.bool aF)),(10,iv aG)]∧Mem W aH w (aK::H)∧R1 aH aI aD∧Ow R1 35 aH aK aJ aE) au ⟨_,_,_,_,Z,_,aj,am,al,gr,f.k Z,m,aq,an⟩ ?_)
  clear au f m
  rintro aC aL aM aN a w ⟨aD,aE,aF,aG,rfl,aH,aI,aJ,aK,aO,f,m,aP,aQ⟩
  refine have h0:=rd2 aO h0;Ah (Ae (Ab f Z λa f=>Ab f Z λa f=>AN underlying27 f Z Z h0 λa f=>Ai f Z Z AP λa f=>Aa ?_))
  rcases Ag aM with⟨aR,aM⟩|⟨aR,aM⟩
  ·refine Am f Z aR (An (Ah (Al (Ah (Ae (Ab f Z λa f=>l_o f (Bj (f.e Z)) λa f=>Ab f Z λa f=>Bd aM λaS aT aM=> ?_))))))
   refine Bk 7 (λa w=>∃aU,GLe aH aU∧Mem W aU w (aK::H)∧Fr a 53 [(0,v0),(7,aI),(8,aJ),(9,(.bool aF)),(10,iv aG),(22,(.bool (decide (aG<(x0.length:Int))))),(25,(.bool aF)),(26,(.bool (!aF))),(27,(.bool (!aF))),(34,(.bool aS))]) ?_ ?_
   ·rcases Ag aT with⟨aV,aT⟩|⟨aV,aT⟩
    ·refine Ap f aV (Ab f Z λa f=>Ap f aV (Ab f Z λa f=>Ap f aV (Ab f Z λa f=>Ap f aV (Bd aT λaW aX aT=>AX T27 f Z Z Z h0 aX λaY aZ a a0 a1 f=>Ap f aV (Aw m AY f Z Z a0 λa f=>Ap f aV (Bd aT λa2 a3 aT=>A2 f Z call86 (Wk.f0 m aP a1 a3) λa4 w a5 m a f=>l_o f (AK (f.e Z) aV (f.e Z)) λa f=> ?_))))))
     obtain rfl:=sj aT
     exact⟨_,a5,m,f.k Z⟩
    ·refine Aq f aV λa f=>Aq f aV λa f=>Aq f aV λa f=>Aq f aV λa f=>Aq f aV λa f=>Aq f aV λa f=>l_o f (AI (f.e Z) aV (f.e Z)) λa f=> ?_
     obtain rfl:=sj aT
     exact⟨_,gr,m,f.k Z⟩
   ·rintro a w ⟨aU,a6,m,f⟩
    refine have h0:=rd2 a6 h0;have aP:=rd1 a6 aP;have aQ:=od3 a6 aQ;Aa ?_
    rcases Ag aM with⟨a7,aM⟩|⟨a7,aM⟩
    ·refine Am f Z a7 (Ae (Ab f Z λa f=>Ab f Z λa f=>AO (R:=R1) (xs:=([aD]:LL)) (RSl.one _) m T27 f Z Z Z (by decide) (All2.cons aP (All2.nil _)) λa8 a9 w a m ba f=>Bd aM λbb bc aM=>A6 (RSl.one _) 1 m aQ Z T27 Z (by decide) f Z Z Z (Ow.src (j:=0) ba m Z) bc λbd be w a m bf f=>Ac f Z λa f=>Aa (Aj (Ac f Z λa f=>Aa (Aj (Ab f Z λa f=>Ab f Z λa f=>Ab f Z λa f=>Bd aM λbg bh aM=>AX T27 f Z Z Z h0 bh λbi bj a bk bl f=>Aw m AY f Z Z bk λa f=>AO (R:=R1) (xs:=([bg]:LL)) (RSl.one _) m T27 f Z Z Z (by decide) (All2.cons bl (All2.nil _)) λbm bn w a m bo f=>Bd aM λbp bq aM=>A6 (RSl.one _) 2 m bf Z T27 Z (by decide) f Z Z Z (Ow.src (j:=0) bo m Z) bq λbr bs w a m bt f=>Ac f Z λa f=>Aa (Aj (Ab f Z λa f=>Ai f Z Z AB λa f=>Ac f Z λa f=>Aa (have m:=m.fr 2;have m:=m.eraseAt 2;have m:=m.eraseAt 1;?_)))))))))
     obtain rfl:=sj aM
     exact⟨_,Z,_,_,_,_,Z,_,aI,bs,br,(gt aO a6),f.k Z,m,aP,bt⟩
    ·refine Ak f Z a7 (An (Aj (Ab f Z λa f=>Ab f Z λa f=>Ab f Z λa f=>Bd aM λbu bv aM=>AX T27 f Z Z Z h0 bv λbw bx a bz bA f=>Aw m AY f Z Z bz λa f=>AO (R:=R1) (xs:=([bu]:LL)) (RSl.one _) m T27 f Z Z Z (by decide) (All2.cons bA (All2.nil _)) λbB bC w a m bD f=>Bd aM λbE bF aM=>A6 (RSl.one _) 1 m aQ Z T27 Z (by decide) f Z Z Z (Ow.src (j:=0) bD m Z) bF λbG bH w a m bI f=>Ac f Z λa f=>Aa (Aj (Ab f Z λa f=>Ai f Z Z AB λa f=>Ac f Z λa f=>Aa (have m:=m.fr 1;have m:=m.eraseAt 1;?_))))))
     obtain rfl:=sj aM
     exact⟨_,Z,_,_,_,_,Z,_,aI,bH,bG,(gt aO a6),f.k Z,m,aP,bI⟩
  ·refine Ak f Z aR (AE Z ?_)
   obtain rfl:=sj aM
   obtain rfl:=aN _ rfl
   exact⟨_,_,_,Z,_,aI,aJ,aK,aO,f.k Z,m,aP,aQ⟩
 ·rintro a w ⟨av,aw,ax,rfl,ay,az,aA,aB,bJ,f,m,bK,bL⟩
  refine Ah (Ae (Ab f Z λa f=>l_o f (Bj (f.e Z)) λa f=>Aa ?_))
  rcases Ag hd with⟨bM,hd⟩|⟨bM,hd⟩
  ·refine Am f Z bM (Aj (Ab f Z λa f=>Ab f Z λa f=>AO (R:=R1) (xs:=([av]:LL)) (RSl.one _) m T27 f Z Z Z (by decide) (All2.cons bK (All2.nil _)) λbN bO w a m bP f=>Bd hd λbQ bR hd=>A6 (RSl.one _) 1 m bL Z T27 Z (by decide) f Z Z Z (Ow.src (j:=0) bP m Z) bR λbS bT w a m bU f=>Ac f Z λa f=>AF (Ab f Z λa f=>Ac f Z λa f=>Aa (Ar (have m:=m.fr 1;have m:=m.eraseAt 1;?_)))))
   obtain rfl:=sj hd
   exact⟨[bT],f.g Z,f.d,_,[bS],(gt ad (gt ah (gt ap bJ))),m,_,_,Z,Z,bU⟩
  ·refine Ak f Z bM (An (Ae (Ab f Z λa f=>Ac f Z λa f=>Aa (Ar ?_))))
   obtain rfl:=sj hd
   exact⟨[aA],f.g Z,f.d,_,[aB],(gt ad (gt ah (gt ap bJ))),m,_,_,Z,Z,bL⟩
theorem Wk.s0 {aa v1:Value}{ab:LL}{x1:LI}(m:Mem W G w (H))(ac:R2 G aa ab)(h1:R1 G v1 x1){y:(LL)×(LL)×Bool}(hd:D.s0 ab x1=some y):
  Calls prog 7 #[(.agg #[aa]),v1] w (Res W G H (λG' Ho v=>∃r0:Value,∃i0:Itm,∃r2:Value,∃i2:Itm,Ho=[i0,i2]∧v= .tuple #[(.agg #[r0,r2]),(.bool y.2.2)]∧Ow R1 35 G' i0 r0 y.1∧Ow R1 35 G' i2 r2 y.2.1)):=by
 refine Au (args:=[(.agg #[aa]),v1]) (N:=78) [.cell 4 32,.tmp 5] func7 Z Z (lb Z) Z λa f=> ?_
 unfold D.s0 at hd
 refine Ae (A3 (cs:=[aa]) m f Z Z Z λad w a m f=>Bp (cs:=[sn,sn]) zeroValue32 m f Z Z λae w a m f=>Ac f Z λa f=>Aa (Ah (Ae (Ay 1 0 (ds:=[aa]) m Bh f Z Z Z Z Z λa f=>Ab f Z λa f=>Bd hd λaf ag hd=>A2 f Z call23 (Wk.j1 m ac h1 ag) λah w ai m a f=>have ac:=rd2 ai ac;have h1:=rd1 ai h1;l_o f (Bj (f.e Z)) λa f=>Aa ?_))))
 rcases Ag hd with⟨aj,hd⟩|⟨aj,hd⟩
 ·refine Am f Z aj (Ae ?_)
  have ak:∀w,(Instr.build 32 #[]).run prog w= .ok (.agg #[sn,sn]) w:=by intro w;simp[Instr.build,Instr.fill,Cb,B5,BI,BQ,BA,B9,B3]
  refine CM f Z Z ak λa f=>Ax 0 0 (ds:=[sn,sn]) m sizeOf32 f Z Z Z (Af Z (Af Z AG)) Z (lb Z) Z λw m=>Ac f Z λa f=>Aa (Ar ?_)
  obtain⟨al,m,am⟩:=Ow.nil R1 35 m
  obtain⟨an,m,ao⟩:=Ow.nil R1 35 m
  refine have ap:=Cs (P:=prog) 2 m DH f (s:=4) rfl rfl rfl;have m:=m.fr 1;have m:=m.eraseAt 3;have m:=m.eraseAt 2;?_
  obtain rfl:=sj hd
  exact⟨[(.agg #[sn,sn]),(.bool false)],⟨ap,f.get _ _ Z,trivial⟩,f.d,_,[al,an],ai,m,_,_,_,_,Z,Z,am,ao⟩
 ·refine Ak f Z aj (An (Ae (Ay 1 0 (ds:=[aa]) m Bh f Z Z Z Z Z λa f=>Ab f Z λa f=>Bd hd λaq ar hd=>BK f Z call24 (Wk.w1 m ac h1 ar) λau av aw w ax m ay a f=>have h1:=rd1 ax h1;Ac f Z λa f=>AF ?_)))
  have az:∀w,(Instr.build 32 #[]).run prog w= .ok (.agg #[sn,sn]) w:=by intro w;simp[Instr.build,Instr.fill,Cb,B5,BI,BQ,BA,B9,B3]
  refine CM f Z Z az λa f=>Bp (cs:=[sn,sn]) zeroValue32 m f Z Z λaA w a m f=>Ax 0 0 (ds:=[sn,sn]) m sizeOf32 f Z Z Z (Af Z (Af Z AG)) Z (lb Z) Z λw m=>AF (Ab f Z λa f=>AN underlying35 f Z Z h1 λa f=>Ac f Z λa f=>Aa (Ah (Ae (Ac f Z λa f=>Aa ?_))))
  obtain⟨aB,m,aC⟩:=Ow.nil R1 35 m
  obtain⟨aD,m,aE⟩:=Ow.nil R1 35 m
  have⟨aF,aG,hd⟩:=bind_some hd
  refine AL (λa w=>∃aH:LL,∃aI:LL,(aH,aI)=aF∧∃(aJ:GH) (aK:Value) (aL:Itm) (aM:Value) (aN:Itm),GLe aw aJ∧Fr a 78 [(4,pb ae),(7,pb aA)]∧Mem W aJ w (ib ae 32 [sn,sn]::ib aA 32 [aK,aM]::aL::aN::H)∧Ow R1 35 aJ aL aK aH∧Ow R1 35 aJ aN aM aI) ?_ ?_
  ·refine Al (have m:=m.fr 1;have m:=m.fr 3;have m:=m.fr 3;have m:Mem W aw w (ib ae 32 [sn,sn]::ib aA 32 [sn,sn]::av::aB::aD::ib ad 29 [aa]::H):=m.fr 4;have m:=m.eraseAt 5;AM (λaO a w=>∃aP:Int,∃aQ:LL,∃aR:LL,(aP,aQ,aR)=aO∧∃(aS:GH) (aT:Value) (aU:Itm) (aV:Value) (aW:Itm),GLe aw aS∧Fr a 78 [(1,v1),(4,pb ae),(6,au),(7,pb aA),(8,(iv (x1.length:Int))),(9,iv aP)]∧Mem W aS w (ib ae 32 [sn,sn]::ib aA 32 [aT,aV]::av::aU::aW::H)∧Ow R1 35 aS aU aT aQ∧Ow R1 35 aS aW aV aR) aG ⟨_,_,_,Z,_,sn,aB,sn,aD,gr,f.k Z,m,aC,aE⟩ ?_)
   clear aG f m
   rintro aO aX aY aZ a w ⟨aP,aQ,aR,rfl,aS,aT,aU,aV,aW,a0,f,m,a1,a2⟩
   refine have h1:=rd1 a0 h1;have ay:=od3 a0 ay;Ah (Ae (Ab f Z λa f=>Ab f Z λa f=>Ai f Z Z AP λa f=>Aa ?_))
   rcases Ag aY with⟨a3,aY⟩|⟨a3,aY⟩
   ·refine Am f Z a3 (An (Ah (Al (Ae (Ab f Z λa f=>Ab f Z λa f=>Ab f Z λa f=>Bd aY λa4 a5 aY=>AX T35 f Z Z Z h1 a5 λa6 a7 a a8 a9 f=> ?_)))))
    subst a9
    refine Aw m Pl2 f Z Z a8 λa f=>Bd aY λba bb aY=>Bm 2 m ay Z T27 f Z Z Z bb λbc a bd f=>Bl 2 m ay Z AY f Z Z bd bb λbe a bf f=>Ac f Z λa f=>Aa (Ah (Bg 10 AV (by kernel_rfl) m (Br 0 10 underlying32 Z sizeOf27 Z f Z λa f=>Bo 1 10 1 AW Z Z Z f Z λa f=>As 2 10 Z f Z λa f=>As 4 10 Z f Z λa f=>As 5 10 Z f Z λa f=>Bd aY λbg bh aY=>Bb 6 10 T35 h1 bh Z f Z Z λbi bj a bk bl f=> ?_)))
    subst bl
    refine Ba 7 10 Pl2 bk Z f Z λa f=>Bw 3 Z λbm w bn m bo bo=>have h1:=rd1 bn h1;have bf:=rd1 bn bf;have a1:=od3 bn a1;have a2:=od3 bn a2;Bd aY λbp bq aY=>BK f Z call26 (Wk.e m bf bq) λbr bs bt w bu m bv a f=>have h1:=rd1 bu h1;have bf:=rd1 bu bf;have a1:=od3 bu a1;have a2:=od3 bu a2;Aa (bo bt [bs] _ _ bu m (Bw 8 Z λbw w bx m bz bz=>have h1:=rd1 bx h1;have bf:=rd1 bx bf;have bv:=od1 bx bv;have a1:=od3 bx a1;have a2:=od3 bx a2;?_))
    obtain⟨bA,bB,m,bC⟩:=Ow.stamp (RI.mono _) bv m
    refine have h1:=rd1 bB h1;have bf:=rd1 bB bf;have a1:=od3 bB a1;have a2:=od3 bB a2;Bd aY λbD bE aY=>A9 f Z call25 (Wk.q m bC bE) λbF bG bH w bI m bJ a f=> ?_
    obtain⟨bK,rfl,rfl,bL⟩:=bJ
    refine have h1:=rd1 bI h1;have bf:=rd1 bI bf;have a1:=od3 bI a1;have a2:=od3 bI a2;Aa (bz bG [] _ _ (gt bB bI) m (Bw 9 Z λbM w bN m bO bO=>have h1:=rd1 bN h1;have bf:=rd1 bN bf;have bL:=rd1 bN bL;have a1:=od3 bN a1;have a2:=od3 bN a2;AO (R:=R1) (xs:=([bD]:LL)) (RSl.one _) m T27 f Z Z Z (by decide) (All2.cons bL (All2.nil _)) λbP bQ w a m bR f=>Aa (bO bM [bP] _ _ gr m (A4 λbS w bT m=>have h1:=rd1 bT h1;have bf:=rd1 bT bf;have bR:=od3 bT bR;have a1:=od3 bT a1;have a2:=od3 bT a2;Bd aY λbU bV aY=>A6 (RSl.one _) 4 m a1 Z T27 Z (by decide) f Z Z Z (Ow.src (j:=0) bR m Z) bV λbW bX w a m bY f=>AQ underlying32 Z sizeOf27 f Z λa f=>Ax 2 0 (ds:=[bX]) m sizeOf27 f Z Z (Ow.cells 4 m bY Z) (Af (Ow.one1 4 m bY Z) AG) Z (lb Z) Z λw m=>AF (Ab f Z λa f=>Ai f Z Z AB λa f=>Ac f Z λa f=>Aa (Ah (Bd aY λbZ b0 aY=> ?_)))))))
    refine AL (λa w=>∃b1:Int,b1=bZ∧∃(b2:GH),GLe bS b2∧Fr a 78 [(1,v1),(4,pb ae),(6,au),(7,pb aA),(8,(iv (x1.length:Int))),(9,iv aP),(11,iv b1)]∧Mem W b2 w (ib ae 32 [sn,sn]::ib aA 32 [bX,aV]::av::bW::aW::H)) ?_ ?_
    ·refine Al (have m:=m.fr 5;have m:=m.fr 5;have m:=m.fr 5;have m:Mem W bS w (ib aA 32 [bX,aV]::av::bW::aW::bP::ib ae 32 [sn,sn]::H):=m.fr 5;have m:=m.fr 5;have m:=m.eraseAt 5;AM (λb3 a w=>∃b4:Int,b4=b3∧∃(b5:GH),GLe bS b5∧Fr a 78 [(1,v1),(4,pb ae),(6,au),(7,pb aA),(8,(iv (x1.length:Int))),(9,iv aP),(10,be),(11,iv b4)]∧Mem W b5 w (ib ae 32 [sn,sn]::ib aA 32 [bX,aV]::av::bW::aW::H)) b0 ⟨_,Z,_,gr,f.k Z,m⟩ ?_)
     clear b0 f m
     rintro b3 b6 b7 b8 a w ⟨b4,rfl,b5,b9,f,m⟩
     refine have h1:=rd1 b9 h1;have bf:=rd1 b9 bf;Ah (Ae (Ab f Z λa f=>Ab f Z λa f=>Ai f Z Z AP λa f=>Ab f Z λa f=> ?_))
     refine Bk 4 (λa w=>∃ca,GLe b5 ca∧Mem W ca w (ib ae 32 [sn,sn]::ib aA 32 [bX,aV]::av::bW::aW::H)∧Fr a 78 [(1,v1),(4,pb ae),(6,au),(7,pb aA),(8,(iv (x1.length:Int))),(9,iv aP),(10,be),(11,iv b4),(49,iv b4),(50,(iv (x1.length:Int))),(51,(.bool (decide (b4<(x1.length:Int))))),(52,(.bool (decide (b4<(x1.length:Int))))),(56,(.bool ((decide (b4<(x1.length:Int)))&&(decide ((0:Int)<(ba.length:Int))))))]) ?_ ?_
     ·rcases Bool.eq_false_or_eq_true (decide (b4<(x1.length:Int))) with cb|cb
      ·exact Ap f cb (Ab f Z λa f=>Ap f cb (AN underlying35 f Z Z bf λa f=>Ap f cb (Ai f Z Z CK λa f=>l_o f (AK (f.e Z) cb (f.e Z)) λa f=>⟨_,gr,m,f.weak ⟨Z,Z,Z,Z,Z,Z,Z,Z,Z,Z,Z,Z,by rw[cb];rfl,trivial⟩⟩)))
      ·exact Aq f cb λa f=>Aq f cb λa f=>Aq f cb λa f=>l_o f (AI (f.e Z) cb (f.e Z)) λa f=>⟨_,gr,m,f.weak ⟨Z,Z,Z,Z,Z,Z,Z,Z,Z,Z,Z,Z,by rw[cb];rfl,trivial⟩⟩
     ·rintro a w ⟨ca,cc,m,f⟩
      refine have h1:=rd1 cc h1;have bf:=rd1 cc bf;Ab f Z λa f=>Bd b7 λcd ce b7=> ?_
      refine Bk 8 (λa w=>∃cf,GLe ca cf∧Mem W cf w (ib ae 32 [sn,sn]::ib aA 32 [bX,aV]::av::bW::aW::H)∧Fr a 78 [(1,v1),(4,pb ae),(6,au),(7,pb aA),(8,(iv (x1.length:Int))),(9,iv aP),(10,be),(11,iv b4),(49,iv b4),(50,(iv (x1.length:Int))),(51,(.bool (decide (b4<(x1.length:Int))))),(52,(.bool (decide (b4<(x1.length:Int))))),(56,(.bool ((decide (b4<(x1.length:Int)))&&(decide ((0:Int)<(ba.length:Int)))))),(57,(.bool ((decide (b4<(x1.length:Int)))&&(decide ((0:Int)<(ba.length:Int)))))),(65,(.bool cd))]) ?_ ?_
      ·rcases Ag ce with⟨cg,ce⟩|⟨cg,ce⟩
       ·refine Ap f cg (Ab f Z λa f=>Ap f cg (Ab f Z λa f=>Ap f cg (Ab f Z λa f=>Ap f cg (Bd ce λch ci ce=>AX T35 f Z Z Z h1 ci λcj ck a cl cm f=> ?_))))
        subst cm
        refine Ap f cg (Aw m Pl2 f Z Z cl λa f=>Ap f cg (Bd ce λcn co ce=>A2 f Z call27 (Wk.f m bf co) λcp w cq m a f=>Ap f cg (l_o f (Bj (f.e Z)) λa f=>l_o f (AK (f.e Z) cg (f.e Z)) λa f=> ?_)))
        obtain rfl:=sj ce
        exact⟨_,cq,m,f.k Z⟩
       ·refine Aq f cg λa f=>Aq f cg λa f=>Aq f cg λa f=>Aq f cg λa f=>Aq f cg λa f=>Aq f cg λa f=>Aq f cg λa f=>l_o f (AI (f.e Z) cg (f.e Z)) λa f=> ?_
        obtain rfl:=sj ce
        exact⟨_,gr,m,f.k Z⟩
      ·rintro a w ⟨cf,cr,m,f⟩
       refine Aa ?_
       rcases Ag b7 with⟨ct,b7⟩|⟨ct,b7⟩
       ·refine Am f Z ct (An (Al (Aj (Ab f Z λa f=>Ai f Z Z AB λa f=>Ac f Z λa f=>Aa ?_))))
        obtain rfl:=sj b7
        exact⟨_,Z,_,Z,_,(gt b9 (gt cc cr)),f.k Z,m⟩
       ·refine Ak f Z ct (AE Z ?_)
        obtain rfl:=sj b7
        obtain rfl:=b8 _ rfl
        exact⟨_,Z,_,(gt b9 (gt cc cr)),f.k Z,m⟩
    ·rintro a w ⟨b1,rfl,b2,cu,f,m⟩
     refine have bY:=od3 cu bY;have a2:=od3 cu a2;Ae (Ab f Z λa f=>Ab f Z λa f=>Ai f Z Z AP λa f=>Aa ?_)
     rcases Ag aY with⟨cv,aY⟩|⟨cv,aY⟩
     ·refine Am f Z cv (Aj (AQ underlying32 Z sizeOf27 f Z λa f=>Ao 1 1 m AW f Z Z Z Z λa f=>Ab f Z λa f=>Ab f Z λa f=>have m:=m.fr 4;?_))
      obtain⟨cw,cx,m,cy⟩:=Ow.stamp (RSl.mono (RI.mono _)) a2 m
      refine have bY:=od3 cx bY;Bd aY λcz cA aY=>BK f Z call28 (Wk.s1 m cy cA) λcB cC cD w cE m cF a f=>have bY:=od3 cE bY;AQ underlying32 Z sizeOf27 f Z λa f=>Ax 2 1 (ds:=[cB]) m sizeOf27 f Z Z (Ow.cells 0 m cF Z) (Af (Ow.one1 0 m cF Z) AG) Z (lb Z) Z λw m=>Aa (Aj (Ab f Z λa f=>Ai f Z Z AB λa f=>Ac f Z λa f=>Aa (have m:=m.fr 4;have m:=m.fr 4;have m:=m.fr 4;have m:=m.fr 4;?_)))
      obtain rfl:=sj aY
      exact⟨_,Z,_,_,_,Z,_,bX,bW,cB,cC,(gt a0 (gt bn (gt bu (gt bx (gt bB (gt bI (gt bN (gt bT (gt cu (gt cx cE)))))))))),f.k Z,m,bY,cF⟩
     ·refine Ak f Z cv (An (Aj (Ab f Z λa f=>Ai f Z Z AB λa f=>Ac f Z λa f=>Aa ?_)))
      obtain rfl:=sj aY
      exact⟨_,Z,_,_,_,Z,_,bX,bW,aV,aW,(gt a0 (gt bn (gt bu (gt bx (gt bB (gt bI (gt bN (gt bT cu)))))))),f.k Z,m,bY,a2⟩
   ·refine Ak f Z a3 (AE Z (have m:=m.fr 4;have m:=m.fr 4;have m:=m.fr 3;have m:Mem W aS w (ib ae 32 [sn,sn]::ib aA 32 [aT,aV]::aU::aW::av::H):=m.fr 3;have m:=m.eraseAt 4;?_))
    obtain rfl:=sj aY
    obtain rfl:=aZ _ rfl
    exact⟨_,_,Z,_,aT,aU,aV,aW,a0,f.k Z,m,a1,a2⟩
  ·rintro a w ⟨aH,aI,rfl,aJ,aK,aL,aM,aN,cG,f,m,cH,cI⟩
   refine Ae (Ay 1 0 (ds:=[aK,aM]) m DH f Z Z Z Z Z λa f=>Ax 0 0 (ds:=[aK,aM]) m sizeOf32 f Z Z Z (Af (Ow.one1 2 m cH Z) (Af (Ow.one1 3 m cI Z) AG)) Z (lb Z) Z λw m=>Ac f Z λa f=>Aa (Ar (have cJ:=Cs (P:=prog) 0 m DH f (s:=4) rfl rfl rfl;have m:=m.fr 3;have m:=m.fr 3;have m:=m.eraseAt 3;have m:=m.eraseAt 2;?_)))
   obtain rfl:=sj hd
   exact⟨[(.agg #[aK,aM]),(.bool true)],⟨cJ,f.get _ _ Z,trivial⟩,f.d,_,[aL,aN],(gt ai (gt ax cG)),m,_,_,_,_,Z,Z,cH,cI⟩
theorem Wk.t {x0 x1 x2:Int}(m:Mem W G w (H)){y:Bool}(hd:D.t x0 x1 x2=some y):
  Calls prog 67 #[iv x0,iv x1,iv x2] w (Res W G H (λ_ Ho v=>Ho=[]∧v=(.bool y))):=by
 refine Au (args:=[iv x0,iv x1,iv x2]) (N:=15) [.tmp 6] func67 Z Z (lb Z) Z λa f=> ?_
 unfold D.t at hd
 refine Ae (Ac f Z λa f=>AF (Ab f Z λa f=>Ab f Z λa f=>Ai f Z Z Fe λa f=>Ab f Z λa f=> ?_))
 refine Bk 4 (λa w=>∃aa,GLe G aa∧Mem W aa w (H)∧Fr a 15 [(0,iv x0),(1,iv x1),(2,iv x2),(7,iv x1),(8,iv x0),(9,(.bool (decide (x1≤x0)))),(10,(.bool (decide (x1≤x0)))),(14,(.bool ((decide (x1≤x0))&&(decide (x0≤x2)))))]) ?_ ?_
 ·rcases Bool.eq_false_or_eq_true (decide (x1≤x0)) with ab|ab
  ·exact Ap f ab (Ab f Z λa f=>Ap f ab (Ab f Z λa f=>Ap f ab (Ai f Z Z Fe λa f=>l_o f (AK (f.e Z) ab (f.e Z)) λa f=>⟨_,gr,m,f.weak ⟨Z,Z,Z,Z,Z,Z,Z,by rw[ab];rfl,trivial⟩⟩)))
  ·exact Aq f ab λa f=>Aq f ab λa f=>Aq f ab λa f=>l_o f (AI (f.e Z) ab (f.e Z)) λa f=>⟨_,gr,m,f.weak ⟨Z,Z,Z,Z,Z,Z,Z,by rw[ab];rfl,trivial⟩⟩
 ·rintro a w ⟨aa,ac,m,f⟩
  refine Ac f Z λa f=>Aa (Ar ?_)
  obtain rfl:=sj hd
  exact⟨[(.bool ((decide (x1≤x0))&&(decide (x0≤x2))))],f.g Z,f.d,_,[],ac,m,Z,Z⟩
theorem Wk.R {v0:Value}{x0:LI}{x1:Int}(m:Mem W G w (H))(h0:R1 G v0 x0){y:Bool}(hd:D.R x0 x1=some y):
  Calls prog 45 #[v0,iv x1] w (Res W G H (λ_ Ho v=>Ho=[]∧v=(.bool y))):=by
 refine Au (args:=[v0,iv x1]) (N:=33) [.tmp 4] func45 Z Z (lb Z) Z λa f=> ?_
 unfold D.R at hd
 refine Ae (Ac f Z λa f=>Aa (Ah (Ae (Ab f Z λa f=>AN underlying35 f Z Z h0 λa f=>Ab f Z λa f=>Aa (Bd hd λaa ab hd=> ?_)))))
 refine AL (λa w=>∃q_181':Unit,aa= .inl q_181'∧∃(ac:GH),GLe G ac∧Fr a 33 []∧Mem W ac w (H)) ?_ ?_
 ·refine Al (AM (λad a w=>∃ae:Int,ae=ad∧∃(af:GH),GLe G af∧Fr a 33 [(0,v0),(1,iv x1),(7,v0),(8,(iv (x0.length:Int))),(9,iv ae)]∧Mem W af w (H)) ab ⟨_,Z,_,gr,f.k Z,m⟩ ?_)
  clear ab f m
  rintro ad ag ah ai a w ⟨ae,rfl,af,aj,f,m⟩
  refine have h0:=rd1 aj h0;Ae (Ai f Z Z AP λa f=>Aa (Ah ?_))
  rcases Ag ah with⟨ak,ah⟩|⟨ak,ah⟩
  ·refine Am f Z ak (An (Ah (Al (Ae (Ab f Z λa f=>Bd ah λal am ah=>AX T35 f Z Z Z h0 am λan ao a ap aq f=> ?_)))))
   subst aq
   refine Aw m Pl2 f Z Z ap λa f=>Ac f Z λa f=>Ac f Z λa f=>AF (Ab f Z λa f=>Ab f Z λa f=>Ai f Z Z CA λa f=>Bd ah λar au ah=>A2 f Z call67 (Wk.t m au) λav w aw m a f=>have h0:=rd1 aw h0;l_o f (Bj (f.e Z)) λa f=>Ab f Z λa f=>Bd ah λax ay ah=> ?_)
   refine Bk 12 (λa w=>∃az,GLe av az∧Mem W az w (H)∧Fr a 33 [(0,v0),(1,iv x1),(5,iv ae),(6,iv al),(7,v0),(8,(iv (x0.length:Int))),(9,iv ae),(14,iv al),(15,iv x1),(16,(iv (i64.wrap (x1-1)))),(17,(.bool ar)),(18,(.bool (!ar))),(19,(.bool (!ar))),(31,(.bool ax))]) ?_ ?_
   ·rcases Ag ay with⟨aA,ay⟩|⟨aA,ay⟩
    ·refine Aq f aA λa f=>Aq f aA λa f=>Aq f aA λa f=>BO f Z Z Z λa f=>BO f Z Z Z λa f=>BO f Z Z Z λa f=>BO f Z Z Z λa f=>BO f Z Z Z λa f=>BO f Z Z Z λa f=>BO f Z Z Z λa f=>Aq f aA λa f=>l_o f (AK (f.e Z) aA (f.e Z)) λa f=> ?_
     obtain rfl:=sj ay
     exact⟨_,gr,m,f.k Z⟩
    ·refine Ap f aA (Ab f Z λa f=>Ap f aA (Ai f Z Z CK λa f=>Ap f aA (Ab f Z λa f=>Bd ay λaB aC ay=> ?_)))
     refine Bk 8 (λa w=>∃aD,GLe av aD∧Mem W aD w (H)∧Fr a 33 [(0,v0),(1,iv x1),(5,iv ae),(6,iv al),(7,v0),(8,(iv (x0.length:Int))),(9,iv ae),(14,iv al),(15,iv x1),(16,(iv (i64.wrap (x1-1)))),(17,(.bool ar)),(18,(.bool (!ar))),(19,(.bool (!ar))),(20,iv ae),(21,(.bool (decide ((0:Int)<ae)))),(22,(.bool (decide ((0:Int)<ae)))),(30,(.bool aB))]) ?_ ?_
     ·rcases Ag aC with⟨aE,aC⟩|⟨aE,aC⟩
      ·refine Ap f aE (Ab f Z λa f=>Ap f aE (Ab f Z λa f=>Ap f aE (Ai f Z Z CA λa f=>Ap f aE (Bd aC λaF aG aC=>AX T35 f Z Z Z h0 aG λaH aI a aJ aK f=> ?_))))
       subst aK
       refine Ap f aE (Aw m Pl2 f Z Z aJ λa f=>Ap f aE (Ab f Z λa f=>Ap f aE (Ai f Z Z EA λa f=>Ap f aA (l_o f (AK (f.e Z) aE (f.e Z)) λa f=> ?_))))
       obtain rfl:=sj aC
       exact⟨_,gr,m,f.k Z⟩
      ·refine Aq f aE λa f=>Aq f aE λa f=>Aq f aE λa f=>Aq f aE λa f=>Aq f aE λa f=>Aq f aE λa f=>Aq f aE λa f=>Ap f aA (l_o f (AI (f.e Z) aE (f.e Z)) λa f=> ?_)
       obtain rfl:=sj aC
       exact⟨_,gr,m,f.k Z⟩
     ·rintro a w ⟨aD,aL,m,f⟩
      refine l_o f (AI (f.e Z) aA (f.e Z)) λa f=> ?_
      obtain rfl:=sj ay
      exact⟨_,aL,m,f.k Z⟩
   ·rintro a w ⟨az,aM,m,f⟩
    refine Aa ?_
    rcases Ag ah with⟨aN,ah⟩|⟨aN,ah⟩
    ·refine Am f Z aN (Ae (Ac f Z λa f=>Aa (Ar ?_)))
     obtain rfl:=sj ah
     obtain rfl:=ai _ rfl
     obtain rfl:=sj hd
     exact⟨[(.bool false)],f.g Z,f.d,_,[],(gt aj (gt aw aM)),m,Z,Z⟩
    ·refine Ak f Z aN (An (Aj (Ai f Z Z AB λa f=>Ab f Z λa f=>Aa ?_)))
     obtain rfl:=sj ah
     exact⟨_,Z,_,Z,_,(gt aj (gt aw aM)),f.k Z,m⟩
  ·refine Ak f Z ak (AE Z ?_)
   obtain rfl:=sj ah
   obtain rfl:=ai _ rfl
   exact⟨_,Z,_,aj,f.weak trivial,m⟩
 ·rintro a w ⟨_,rfl,ac,aO,f,m⟩
  refine Ae (Ac f Z λa f=>Aa (Ar ?_))
  obtain rfl:=sj hd
  exact⟨[(.bool true)],f.g Z,f.d,_,[],aO,m,Z,Z⟩
theorem Wk.w0 {aa:Value}{ab:LL}(m:Mem W G w (H))(ac:R2 G aa ab){y:Bool}(hd:D.w0 ab=some y):
  Calls prog 44 #[(.agg #[aa])] w (Res W G H (λ_ Ho v=>Ho=[]∧v=(.bool y))):=by
 refine Au (args:=[(.agg #[aa])]) (N:=61) [.tmp 2] func44 Z Z (lb Z) Z λa f=> ?_
 unfold D.w0 at hd
 refine Ae (A3 (cs:=[aa]) m f Z Z Z λad w a m f=>Ac f Z λa f=>AF (AQ underlying29 Z sizeOf27 f Z λa f=>Ao 0 0 m AW f Z Z Z Z λa f=>AN underlying27 f Z Z ac λa f=>Ac f Z λa f=>Aa (Ah (Ae (Ab f Z λa f=>Ai f Z Z AP λa f=>Ab f Z λa f=> ?_)))))
 refine Bk 3 (λa w=>∃ae,GLe G ae∧Mem W ae w (ib ad 29 [aa]::H)∧Fr a 61 [(0,(.agg #[aa])),(1,pb ad),(3,(iv (ab.length:Int))),(13,(iv (ab.length:Int))),(14,(.bool (decide ((ab.length:Int)<1)))),(15,(.bool (decide ((ab.length:Int)<1)))),(18,(.bool ((decide ((ab.length:Int)<1))||(decide ((16:Int)<(ab.length:Int))))))]) ?_ ?_
 ·rcases Bool.eq_false_or_eq_true (decide ((ab.length:Int)<1)) with af|af
  ·exact Aq f af λa f=>Aq f af λa f=>l_o f (AK (f.e Z) af (f.e Z)) λa f=>⟨_,gr,m,f.weak ⟨Z,Z,Z,Z,Z,Z,by rw[af];rfl,trivial⟩⟩
  ·exact Ap f af (Ab f Z λa f=>Ap f af (Ai f Z Z CK λa f=>l_o f (AI (f.e Z) af (f.e Z)) λa f=>⟨_,gr,m,f.weak ⟨Z,Z,Z,Z,Z,Z,by rw[af];rfl,trivial⟩⟩))
 ·rintro a w ⟨ae,ag,m,f⟩
  refine have ac:=rd2 ag ac;Aa ?_
  rcases Ag hd with⟨ah,hd⟩|⟨ah,hd⟩
  ·refine Am f Z ah (Ae (Ac f Z λa f=>Aa (Ar (have m:=m.dp 1;?_))))
   obtain rfl:=sj hd
   exact⟨[(.bool false)],f.g Z,f.d,_,[],ag,m,Z,Z⟩
  ·refine Ak f Z ah (An (Ah (Ae (AQ underlying29 Z sizeOf27 f Z λa f=>Ao 0 0 m AW f Z Z Z Z λa f=>AN underlying27 f Z Z ac λa f=>Ab f Z λa f=>Aa (Bd hd λai aj hd=> ?_)))))
   refine AL (λa w=>∃q_91':Unit,ai= .inl q_91'∧∃(ak:GH),GLe ae ak∧Fr a 61 [(1,pb ad)]∧Mem W ak w (ib ad 29 [aa]::H)) ?_ ?_
   ·refine Al (AM (λal a w=>∃am:Int,am=al∧∃(an:GH),GLe ae an∧Fr a 61 [(1,pb ad),(3,(iv (ab.length:Int))),(20,aa),(21,(iv (ab.length:Int))),(22,iv am)]∧Mem W an w (ib ad 29 [aa]::H)) aj ⟨_,Z,_,gr,f.k Z,m⟩ ?_)
    clear aj f m
    rintro al ao ap aq a w ⟨am,rfl,an,ar,f,m⟩
    refine have ac:=rd2 ar ac;Ae (Ai f Z Z AP λa f=>Aa (Ah ?_))
    rcases Ag ap with⟨au,ap⟩|⟨au,ap⟩
    ·refine Am f Z au (An (Ah (Al (Ae (Ab f Z λa f=>Bd ap λav aw ap=>AX T27 f Z Z Z ac aw λax ay a az aA f=>Aw m AY f Z Z az λa f=>Ac f Z λa f=>Ac f Z λa f=>AF (Ab f Z λa f=>Ab f Z λa f=>Bd ap λaB aC ap=>A2 f Z call45 (Wk.R m aA aC) λaD w aE m a f=>have aA:=rd1 aE aA;l_o f (Bj (f.e Z)) λa f=>Ab f Z λa f=>Bd ap λaF aG ap=> ?_))))))
     refine Bk 4 (λa w=>∃aH,GLe aD aH∧Mem W aH w (ib ad 29 [aa]::H)∧Fr a 61 [(1,pb ad),(3,(iv (ab.length:Int))),(4,iv am),(5,ay),(20,aa),(21,(iv (ab.length:Int))),(22,iv am),(27,ay),(28,(iv (ab.length:Int))),(29,(.bool aB)),(30,(.bool (!aB))),(31,(.bool (!aB))),(35,(.bool aF))]) ?_ ?_
     ·rcases Ag aG with⟨aI,aG⟩|⟨aI,aG⟩
      ·refine Aq f aI λa f=>Aq f aI λa f=>Aq f aI λa f=>l_o f (AK (f.e Z) aI (f.e Z)) λa f=> ?_
       obtain rfl:=sj aG
       exact⟨_,gr,m,f.k Z⟩
      ·refine Ap f aI (Ab f Z λa f=>Ap f aI (Ab f Z λa f=>Ap f aI (Bd aG λaJ aK aG=>A2 f Z call107 (Wk.q0 m aA aK) λaL w aM m a f=>l_o f (AI (f.e Z) aI (f.e Z)) λa f=> ?_)))
       obtain rfl:=sj aG
       exact⟨_,aM,m,f.k Z⟩
     ·rintro a w ⟨aH,aN,m,f⟩
      refine Aa ?_
      rcases Ag ap with⟨aO,ap⟩|⟨aO,ap⟩
      ·refine Am f Z aO (Ae (Ac f Z λa f=>Aa (Ar (have m:=m.dp 1;?_))))
       obtain rfl:=sj ap
       obtain rfl:=aq _ rfl
       obtain rfl:=sj hd
       exact⟨[(.bool false)],f.g Z,f.d,_,[],(gt ag (gt ar (gt aE aN))),m,Z,Z⟩
      ·refine Ak f Z aO (An (Aj (Ai f Z Z AB λa f=>Ab f Z λa f=>Aa ?_)))
       obtain rfl:=sj ap
       exact⟨_,Z,_,Z,_,(gt ar (gt aE aN)),f.k Z,m⟩
    ·refine Ak f Z au (AE Z ?_)
     obtain rfl:=sj ap
     obtain rfl:=aq _ rfl
     exact⟨_,Z,_,ar,f.k Z,m⟩
   ·rintro a w ⟨_,rfl,ak,aP,f,m⟩
    refine have ac:=rd2 aP ac;Ah (Ae (AQ underlying29 Z sizeOf27 f Z λa f=>Ao 0 0 m AW f Z Z Z Z λa f=>AN underlying27 f Z Z ac λa f=>Ab f Z λa f=>Aa (Bd hd λaQ aR hd=> ?_)))
    refine AL (λa w=>∃q_394':Unit,aQ= .inl q_394'∧∃(aS:GH),GLe ak aS∧Fr a 61 []∧Mem W aS w (H)) ?_ ?_
    ·refine Al (AM (λaT a w=>∃aU:Int,aU=aT∧∃(aV:GH),GLe ak aV∧Fr a 61 [(1,pb ad),(38,aa),(39,(iv (ab.length:Int))),(40,iv aU)]∧Mem W aV w (ib ad 29 [aa]::H)) aR ⟨_,Z,_,gr,f.k Z,m⟩ ?_)
     clear aR f m
     rintro aT aW aX aY a w ⟨aU,rfl,aV,aZ,f,m⟩
     refine have ac:=rd2 aZ ac;Ae (Ai f Z Z AP λa f=>Aa (Ah ?_))
     rcases Ag aX with⟨a0,aX⟩|⟨a0,aX⟩
     ·refine Am f Z a0 (An (Ah (Al (Ae (Ab f Z λa f=>Bd aX λa1 a2 aX=>AX T27 f Z Z Z ac a2 λa3 a4 a a5 a6 f=>Aw m AY f Z Z a5 λa f=>Ac f Z λa f=>Ac f Z λa f=>AF (Ab f Z λa f=>AN underlying35 f Z Z a6 λa f=>Ab f Z λa f=>Aa (Bd aX λa7 a8 aX=> ?_)))))))
      refine AL (λa w=>∃q_560':Unit,a7= .inl q_560'∧∃(a9:GH),GLe aV a9∧Fr a 61 [(1,pb ad),(38,aa),(39,(iv (ab.length:Int))),(40,iv aU)]∧Mem W a9 w (ib ad 29 [aa]::H)) ?_ ?_
      ·refine Al (AM (λba a w=>∃bb:Int,bb=ba∧∃(bc:GH),GLe aV bc∧Fr a 61 [(1,pb ad),(6,iv aU),(38,aa),(39,(iv (ab.length:Int))),(40,iv aU),(45,a4),(46,(iv (a1.length:Int))),(47,iv bb)]∧Mem W bc w (ib ad 29 [aa]::H)) a8 ⟨_,Z,_,gr,f.k Z,m⟩ ?_)
       clear a8 f m
       rintro ba bd be bf a w ⟨bb,rfl,bc,bg,f,m⟩
       refine have ac:=rd2 bg ac;have a6:=rd1 bg a6;Ae (Ai f Z Z AP λa f=>Aa (Ah ?_))
       rcases Ag be with⟨bh,be⟩|⟨bh,be⟩
       ·refine Am f Z bh (An (Ah (Al (Ae (Bd be λbi bj be=>AX T35 f Z Z Z a6 bj λbk bl a bm bn f=> ?_)))))
        subst bn
        refine Aw m Pl2 f Z Z bm λa f=>Ac f Z λa f=>AF (AQ underlying29 Z sizeOf27 f Z λa f=>Ao 0 0 m AW f Z Z Z Z λa f=>Ab f Z λa f=>Bd be λbo bp be=>AX T27 f Z Z Z ac bp λbq br a bs bt f=>Aw m AY f Z Z bs λa f=>Ab f Z λa f=>Bd be λbu bv be=>A2 f Z call107 (Wk.q0 m bt bv) λbw w bx m a f=>l_o f (Bj (f.e Z)) λa f=>Aa ?_)
        rcases Ag be with⟨bz,be⟩|⟨bz,be⟩
        ·refine Am f Z bz (Ae (Ac f Z λa f=>Aa (Ar (have m:=m.dp 1;?_))))
         obtain rfl:=sj be
         obtain rfl:=bf _ rfl
         obtain rfl:=sj aX
         obtain rfl:=aY _ rfl
         obtain rfl:=sj hd
         exact⟨[(.bool false)],f.g Z,f.d,_,[],(gt ag (gt aP (gt aZ (gt bg bx)))),m,Z,Z⟩
        ·refine Ak f Z bz (An (Aj (Ai f Z Z AB λa f=>Ab f Z λa f=>Aa ?_)))
         obtain rfl:=sj be
         exact⟨_,Z,_,Z,_,(gt bg bx),f.k Z,m⟩
       ·refine Ak f Z bh (AE Z ?_)
        obtain rfl:=sj be
        obtain rfl:=bf _ rfl
        exact⟨_,Z,_,bg,f.k Z,m⟩
      ·rintro a w ⟨_,rfl,a9,bA,f,m⟩
       refine Aj (Ai f Z Z AB λa f=>Ab f Z λa f=>Aa ?_)
       obtain rfl:=sj aX
       exact⟨_,Z,_,Z,_,(gt aZ bA),f.k Z,m⟩
     ·refine Ak f Z a0 (AE Z (have m:=m.dp 1;?_))
      obtain rfl:=sj aX
      obtain rfl:=aY _ rfl
      exact⟨_,Z,_,aZ,f.weak trivial,m⟩
    ·rintro a w ⟨_,rfl,aS,bB,f,m⟩
     refine Ae (Ac f Z λa f=>Aa (Ar ?_))
     obtain rfl:=sj hd
     exact⟨[(.bool true)],f.g Z,f.d,_,[],(gt ag (gt aP bB)),m,Z,Z⟩
theorem Wk.b1 {v0:Value}{b1:Nat}{x0:LI}{aa:Int}(m:Mem W G w (ib b1 3 [iv aa]::H))(h0:R1 G v0 x0){y:Bool}(hd:D.b1 x0 aa=some y):
  Calls prog 123 #[v0,pb b1] w (Res W G H (λ_ Ho v=>Ho=[ib b1 3 [iv aa]]∧v=(.bool y))):=by
 refine Au (args:=[v0,pb b1]) (N:=13) [.tmp 3] func123 Z Z (lb Z) Z λa f=> ?_
 unfold D.b1 at hd
 refine Ae (Ac f Z λa f=>AF (Ab f Z λa f=>AN underlying35 f Z Z h0 λa f=>Ai f Z Z Cw λa f=>Ab f Z λa f=>Bd hd λab ac hd=> ?_))
 refine Bk 5 (λa w=>∃ad,GLe G ad∧Mem W ad w (ib b1 3 [iv aa]::H)∧Fr a 13 [(0,v0),(1,pb b1),(4,v0),(5,(iv (x0.length:Int))),(6,(.bool ((x0.length:Int) !=2))),(7,(.bool ((x0.length:Int) !=2))),(12,(.bool ab))]) ?_ ?_
 ·rcases Ag ac with⟨ae,ac⟩|⟨ae,ac⟩
  ·refine Aq f ae λa f=>Aq f ae λa f=>Aq f ae λa f=>Aq f ae λa f=>l_o f (AK (f.e Z) ae (f.e Z)) λa f=> ?_
   obtain rfl:=sj ac
   exact⟨_,gr,m,f.k Z⟩
  ·refine Ap f ae (Ab f Z λa f=>Ap f ae (Ao 0 0 m Pl3 f Z Z Z Z λa f=>Ap f ae (Bd ac λaf ag ac=>A2 f Z call45 (Wk.R m h0 ag) λah w ai m a f=>Ap f ae (l_o f (Bj (f.e Z)) λa f=>l_o f (AI (f.e Z) ae (f.e Z)) λa f=> ?_))))
   obtain rfl:=sj ac
   exact⟨_,ai,m,f.k Z⟩
 ·rintro a w ⟨ad,aj,m,f⟩
  refine Ac f Z λa f=>Aa (Ar ?_)
  obtain rfl:=sj hd
  exact⟨[(.bool ab)],f.g Z,f.d,_,[ib b1 3 [iv aa]],aj,m,Z,Z⟩
theorem Wk.P1 {v0:Value}{b1c0:Nat}{x0:LL}{aa:Int}(m:Mem W G w (ib b1c0 3 [iv aa]::H))(h0:R2 G v0 x0){y:Int}(hd:D.P1 x0 aa=some y):
  Calls prog 92 #[v0,Fw 123 #[(pb b1c0)]] w (Res W G H (λ_ Ho v=>Ho=[ib b1c0 3 [iv aa]]∧v=(iv y))):=by
 refine Au (args:=[v0,Fw 123 #[(pb b1c0)]]) (N:=19) [.tmp 4] func92 Z Z (lb Z) Z λa f=> ?_
 unfold D.P1 at hd
 refine Ae (Ac f Z λa f=>Aa (Ah (Ae (Ab f Z λa f=>AN underlying27 f Z Z h0 λa f=>Ab f Z λa f=>Aa (Bd hd λab ac hd=> ?_)))))
 refine AL (λa w=>∃q_33':Unit,ab= .inl q_33'∧∃(ad:GH),GLe G ad∧Fr a 19 []∧Mem W ad w (ib b1c0 3 [iv aa]::H)) ?_ ?_
 ·refine Al (AM (λae a w=>∃af:Int,af=ae∧∃(ag:GH),GLe G ag∧Fr a 19 [(0,v0),(1,Fw 123 #[(pb b1c0)]),(7,(iv (x0.length:Int))),(8,iv af)]∧Mem W ag w (ib b1c0 3 [iv aa]::H)) ac ⟨_,Z,_,gr,f.k Z,m⟩ ?_)
  clear ac f m
  rintro ae ah ai aj a w ⟨af,rfl,ag,ak,f,m⟩
  refine have h0:=rd2 ak h0;Ae (Ai f Z Z AP λa f=>Aa (Ah ?_))
  rcases Ag ai with⟨al,ai⟩|⟨al,ai⟩
  ·refine Am f Z al (An (Ah (Al (Ae (Ab f Z λa f=>Ac f Z λa f=>AF (Ab f Z λa f=>Ab f Z λa f=>Ab f Z λa f=>Bd ai λam an ai=>AX T27 f Z Z Z h0 an λao ap a aq ar f=>Aw m AY f Z Z aq λa f=>Bd ai λau av ai=>CC f Z Z Z call123 (Wk.b1 m ar av) λaw ax ay w az m aA a f=> ?_))))))
   obtain⟨rfl,rfl⟩:=aA
   refine Aa ?_
   rcases Ag ai with⟨aB,ai⟩|⟨aB,ai⟩
   ·refine Am f Z aB (Ae (Ab f Z λa f=>Ac f Z λa f=>Aa (Ar ?_)))
    obtain rfl:=sj ai
    obtain rfl:=aj _ rfl
    obtain rfl:=sj hd
    exact⟨[iv af],f.g Z,f.d,_,[ib b1c0 3 [iv aa]],(gt ak az),m,Z,Z⟩
   ·refine Ak f Z aB (An (Aj (Ai f Z Z AB λa f=>Ab f Z λa f=>Aa ?_)))
    obtain rfl:=sj ai
    exact⟨_,Z,_,Z,_,(gt ak az),f.k Z,m⟩
  ·refine Ak f Z al (AE Z ?_)
   obtain rfl:=sj ai
   obtain rfl:=aj _ rfl
   exact⟨_,Z,_,ak,f.weak trivial,m⟩
 ·rintro a w ⟨_,rfl,ad,aC,f,m⟩
  refine Ae (Ac f Z λa f=>Aa (Ar ?_))
  obtain rfl:=sj hd
  exact⟨[(iv (-1))],f.g Z,f.d,_,[ib b1c0 3 [iv aa]],aC,m,Z,Z⟩
theorem Wk.M1 {v0:Value}{b1c0:Nat}{x0:LL}{aa:Int}(m:Mem W G w (ib b1c0 3 [iv aa]::H))(h0:R2 G v0 x0){y:Bool}(hd:D.M1 x0 aa=some y):
  Calls prog 30 #[v0,Fw 123 #[(pb b1c0)]] w (Res W G H (λ_ Ho v=>Ho=[ib b1c0 3 [iv aa]]∧v=(.bool y))):=by
 refine Au (args:=[v0,Fw 123 #[(pb b1c0)]]) (N:=9) [.tmp 4] func30 Z Z (lb Z) Z λa f=> ?_
 unfold D.M1 at hd
 refine Ae (Ac f Z λa f=>AF (Ab f Z λa f=>Ab f Z λa f=>Bd hd λab ac hd=>A9 f Z call92 (Wk.P1 m h0 ac) λad ae af w ag m ah a f=> ?_))
 obtain⟨rfl,rfl⟩:=ah
 refine Ai f Z Z EA λa f=>Ac f Z λa f=>Aa (Ar ?_)
 obtain rfl:=sj hd
 exact⟨[(.bool (decide ((0:Int)≤ab)))],f.g Z,f.d,_,[ib b1c0 3 [iv aa]],ag,m,Z,Z⟩
theorem Wk.J {v0:Value}{x0:LL}{x1:Int}(m:Mem W G w (H))(h0:R2 G v0 x0){y:Bool}(hd:D.J x0 x1=some y):
  Calls prog 87 #[v0,iv x1] w (Res W G H (λ_ Ho v=>Ho=[]∧v=(.bool y))):=by
 refine Au (args:=[v0,iv x1]) (N:=9) [.tmp 4] func87 Z Z (lb Z) Z λa f=> ?_
 unfold D.J at hd
 refine Ae (A3 (cs:=[iv x1]) m f Z Z Z λaa w a m f=>Ac f Z λa f=>AF (Ab f Z λa f=>Dl f Z Z Z λa f=>Bd hd λab ac hd=>A9 f Z call30 (Wk.M1 m h0 ac) λad ae af w ag m ah a f=> ?_))
 obtain⟨rfl,rfl⟩:=ah
 refine l_o f (Bj (f.e Z)) λa f=>Ac f Z λa f=>Aa (Ar (have m:=m.dp 1;?_))
 obtain rfl:=sj hd
 exact⟨[(.bool (!ab))],f.g Z,f.d,_,[],ag,m,Z,Z⟩
theorem Wk.a {x0:Int}(m:Mem W G w (H)){y:Int}(hd:D.a x0=some y):
  Calls prog 91 #[iv x0] w (Res W G H (λ_ Ho v=>Ho=[]∧v=(.int .u32 y))):=by
 refine Au (args:=[iv x0]) (N:=5) [.tmp 2] func91 Z Z (lb Z) Z λa f=> ?_
 unfold D.a at hd
 refine Ae (Ac f Z λa f=>AF (Ab f Z λa f=> ?_))
 obtain⟨aa,hd⟩:=CL hd
 refine l_o f (r_shl (f.e Z) (f.e Z) aa) λa f=>Ac f Z λa f=>Aa (Ar ?_)
 obtain rfl:=sj hd
 exact⟨[(.int .u32 (ishl .u32 1 x0))],f.g Z,f.d,_,[],gr,m,Z,Z⟩
theorem Wk.k1 {v0:Value}{it0:Itm}{x0:LI}{x1 x2:Int}(m:Mem W G w (it0::H))(o0:Ow (RI .u32) 74 G it0 v0 x0){y:(LI)}(hd:D.k1 x0 x1 x2=some y):
  Calls prog 94 #[v0,iv x1,iv x2] w (Res W G H (λG' Ho _=>∃i0:Itm,Ho=[i0]∧Ow (RI .u32) 74 G' i0 v0 y)):=by
 refine Au (args:=[v0,iv x1,iv x2]) (N:=22) [] func94 Z Z (lb Z) Z λa f=> ?_
 unfold D.k1 at hd
 refine Ah (Bg 8 AV (by kernel_rfl) m (As 0 8 Z f Z λa f=>As 1 8 Z f Z λa f=>Bd hd λaa ab hd=>DD 2 8 0 m o0 T67 ab Z f Z Z λac a ad f=>Ew 3 8 0 o0 CU ad ab Z f Z λae a af f=> ?_))
 subst af
 refine As 4 8 Z f Z λa f=>Bd hd λag ah hd=>B4 (i:=5) 8 Z (by kernel_rfl) Z f Z Z Z call91 (λ_ _ w ai m=>Wk.a m ah) λa f=>q_p 6 8 Z f (λ_=>BB (f.e Z) (f.e Z) EK) λa f=>Bd hd λaj ak hd=>DD 7 8 0 m o0 T67 ak Z f Z Z λal a am f=>A4 λan w ao m=>have o0:=od1 ao o0;Ci 0 m o0 Z sizeOf74 f Z Z am ak Z Z Z λap w m aq=>Aa (Bg 8 AV (by kernel_rfl) m (As 0 8 Z f Z λa f=>As 1 8 Z f Z λa f=>Bd hd λar au hd=>DD 2 8 0 m aq T67 au Z f Z Z λav a aw f=>Ew 3 8 0 aq CU aw au Z f Z λax a ay f=> ?_))
 subst ay
 refine As 4 8 Z f Z λa f=>Bd hd λaz aA hd=>B4 (i:=5) 8 Z (by kernel_rfl) Z f Z Z Z call91 (λ_ _ w aB m=>Wk.a m aA) λa f=>q_p 6 8 Z f (λ_=>BB (f.e Z) (f.e Z) EK) λa f=>Bd hd λaC aD hd=>DD 7 8 0 m aq T67 aD Z f Z Z λaE a aF f=>A4 λaG w aH m=>have aq:=od1 aH aq;Ci 0 m aq Z sizeOf74 f Z Z aF aD Z Z Z λaI w m aJ=>Aa ?_
 obtain rfl:=sj hd
 exact⟨[],trivial,f.d,_,[aI],(gt ao aH),m,_,Z,aJ⟩
theorem Wk.v0 {aa ab:Value}{ac ad:LL}(m:Mem W G w (H))(ae:R2 G aa ac)(af:R2 G ab ad){y:(LI)}(hd:D.v0 ac ad=some y):
  Calls prog 33 #[(.agg #[aa,ab])] w (Res W G H (λG' Ho v=>∃r0:Value,∃i0:Itm,Ho=[i0]∧r0=v∧Ow (RI .u32) 74 G' i0 r0 y)):=by
 refine Au (args:=[(.agg #[aa,ab])]) (N:=27) [.tmp 2] func33 Z Z (lb Z) Z λa f=> ?_
 unfold D.v0 at hd
 refine Ae (A3 (cs:=[aa,ab]) m f Z Z Z λag w a m f=>Ac f Z λa f=>AF (AQ underlying32 Z sizeOf27 f Z λa f=>Ao 0 0 m AW f Z Z Z Z λa f=>AN underlying27 f Z Z ae λa f=>Bd hd λah ai hd=>Cy (R:=(RI .u32)) m T67 Z (by decide) Z f Z Z Z ai λaj ak w a m al f=>Ac f Z λa f=>Aa (Ah (Ae (AQ underlying32 Z sizeOf27 f Z λa f=>Ao 1 1 m AW f Z Z Z Z λa f=>AN underlying27 f Z Z af λa f=>Ab f Z λa f=>Aa (Bd hd λam an hd=> ?_))))))
 refine AL (λa w=>∃ao:LI,ao=am∧∃(ap:GH) (aq:Itm),GLe G ap∧Fr a 27 [(3,ak)]∧Mem W ap w (aq::H)∧Ow (RI .u32) 74 ap aq ak ao) ?_ ?_
 ·refine Al (have m:=m.eraseAt 1;AM (λar a w=>∃au:LI,∃av:Int,(au,av)=ar∧∃(aw:GH) (ax:Itm),GLe G aw∧Fr a 27 [(3,ak),(11,ab),(12,(iv (ad.length:Int))),(13,iv av)]∧Mem W aw w (ax::H)∧Ow (RI .u32) 74 aw ax ak au) an ⟨_,_,Z,_,aj,gr,f.k Z,m,al⟩ ?_)
  clear an f m
  rintro ar ay az aA a w ⟨au,av,rfl,aw,ax,aB,f,m,aC⟩
  refine have af:=rd2 aB af;Ae (Ai f Z Z AP λa f=>Aa (Ah ?_))
  rcases Ag az with⟨aD,az⟩|⟨aD,az⟩
  ·refine Am f Z aD (An (Ah (Al (Ae (Bd az λaE aF az=>AX T27 f Z Z Z af aF λaG aH a aI aJ f=>Aw m AY f Z Z aI λa f=>Ac f Z λa f=>Aa (Bg 7 AV (by kernel_rfl) m (As 0 7 Z f Z λa f=>As 1 7 Z f Z λa f=>Bd az λaK aL az=>Bb 2 7 T35 aJ aL Z f Z Z λaM aN a aO aP f=> ?_)))))))
   subst aP
   refine Ba 3 7 Pl2 aO Z f Z λa f=>As 4 7 Z f Z λa f=>Bd az λaQ aR az=>Bb 5 7 T35 aJ aR Z f Z Z λaS aT a aU aV f=> ?_
   subst aV
   refine Ba 6 7 Pl2 aU Z f Z λa f=>A4 λaW w aX m=>have aC:=od1 aX aC;Bd az λaY aZ az=>A9 f Z call94 (Wk.k1 m aC aZ) λa0 a1 a2 w a3 m a4 a f=> ?_
   obtain⟨a5,rfl,a6⟩:=a4
   refine Aa (Aj (Ai f Z Z AB λa f=>Ab f Z λa f=>Aa ?_))
   obtain rfl:=sj az
   exact⟨_,Z,_,_,Z,_,a5,(gt aB (gt aX a3)),f.k Z,m,a6⟩
  ·refine Ak f Z aD (AE Z ?_)
   obtain rfl:=sj az
   obtain rfl:=aA _ rfl
   exact⟨_,Z,_,ax,aB,f.k Z,m,aC⟩
 ·rintro a w ⟨ao,rfl,ap,aq,a7,f,m,a8⟩
  refine Ae (Ab f Z λa f=>Ac f Z λa f=>Aa (Ar ?_))
  obtain rfl:=sj hd
  exact⟨[ak],f.g Z,f.d,_,[aq],a7,m,_,_,Z,Z,a8⟩
theorem Wk.h {v0:Value}{x0:LI}(m:Mem W G w (H))(h0:R1 G v0 x0){y:Int}(hd:D.h x0=some y):
  Calls prog 93 #[v0] w (Res W G H (λ_ Ho v=>Ho=[]∧v=(.int .u32 y))):=by
 refine Au (args:=[v0]) (N:=18) [.tmp 2] func93 Z Z (lb Z) Z λa f=> ?_
 unfold D.h at hd
 refine Ae (Ac f Z λa f=>AF (Ac f Z λa f=>Aa (Ah (Ae (Ab f Z λa f=>AN underlying35 f Z Z h0 λa f=>Ab f Z λa f=>Aa (Bd hd λaa ab hd=> ?_))))))
 refine AL (λa w=>∃ac:Int,ac=aa∧∃(ad:GH),GLe G ad∧Fr a 18 [(3,(.int .u32 ac))]∧Mem W ad w (H)) ?_ ?_
 ·refine Al (AM (λae a w=>∃af:Int,∃ag:Int,(af,ag)=ae∧∃(ah:GH),GLe G ah∧Fr a 18 [(3,(.int .u32 af)),(6,v0),(7,(iv (x0.length:Int))),(8,iv ag)]∧Mem W ah w (H)) ab ⟨_,_,Z,_,gr,f.k Z,m⟩ ?_)
  clear ab f m
  rintro ae ai aj ak a w ⟨af,ag,rfl,ah,al,f,m⟩
  refine have h0:=rd1 al h0;Ae (Ai f Z Z AP λa f=>Aa (Ah ?_))
  rcases Ag aj with⟨am,aj⟩|⟨am,aj⟩
  ·refine Am f Z am (An (Ah (Al (Ae (Bd aj λan ao aj=>AX T35 f Z Z Z h0 ao λap aq a ar au f=> ?_)))))
   subst au
   refine Aw m Pl2 f Z Z ar λa f=>Ac f Z λa f=>Aa (Aj (Ab f Z λa f=>Ab f Z λa f=>Bd aj λav aw aj=>A2 f Z call91 (Wk.a m aw) λax w ay m a f=>Ai f Z Z EK λa f=>Ac f Z λa f=>Aa (Aj (Ai f Z Z AB λa f=>Ab f Z λa f=>Aa ?_))))
   obtain rfl:=sj aj
   exact⟨_,Z,_,_,Z,_,(gt al ay),f.k Z,m⟩
  ·refine Ak f Z am (AE Z ?_)
   obtain rfl:=sj aj
   obtain rfl:=ak _ rfl
   exact⟨_,Z,_,al,f.k Z,m⟩
 ·rintro a w ⟨ac,rfl,ad,az,f,m⟩
  refine Ae (Ab f Z λa f=>Ac f Z λa f=>Aa (Ar ?_))
  obtain rfl:=sj hd
  exact⟨[(.int .u32 ac)],f.g Z,f.d,_,[],az,m,Z,Z⟩
theorem Wk.v {v0:Value}{x0:LL}(m:Mem W G w (H))(h0:R2 G v0 x0){y:(LI)}(hd:D.v x0=some y):
  Calls prog 32 #[v0] w (Res W G H (λG' Ho v=>∃r0:Value,∃i0:Itm,Ho=[i0]∧r0=v∧Ow (RI .u32) 74 G' i0 r0 y)):=by
 refine Au (args:=[v0]) (N:=20) [.tmp 2] func32 Z Z (lb Z) Z λa f=> ?_
 unfold D.v at hd
 refine Ae (Ac f Z λa f=>AF (AO (R:=(RI .u32)) (xs:=([]:LI)) (RI.one _) m T65 f Z Z Z (by decide) (All2.nil _) λaa ab w a m ac f=>Ac f Z λa f=>Aa (Ah (Ae (Ab f Z λa f=>AN underlying27 f Z Z h0 λa f=>Ab f Z λa f=>Aa (Bd hd λad ae hd=> ?_))))))
 refine AL (λa w=>∃af:LI,af=ad∧∃(ag:GH) (ah:Value) (ai:Itm),GLe G ag∧Fr a 20 [(3,ah)]∧Mem W ag w (ai::H)∧Ow (RI .u32) 74 ag ai ah af) ?_ ?_
 ·refine Al (AM (λaj a w=>∃ak:LI,∃al:Int,(ak,al)=aj∧∃(am:GH) (an:Value) (ao:Itm),GLe G am∧Fr a 20 [(3,an),(7,v0),(8,(iv (x0.length:Int))),(9,iv al)]∧Mem W am w (ao::H)∧Ow (RI .u32) 74 am ao an ak) ae ⟨_,_,Z,_,ab,aa,gr,f.k Z,m,ac⟩ ?_)
  clear ae f m
  rintro aj ap aq ar a w ⟨ak,al,rfl,am,an,ao,au,f,m,av⟩
  refine have h0:=rd2 au h0;Ae (Ai f Z Z AP λa f=>Aa (Ah ?_))
  rcases Ag aq with⟨aw,aq⟩|⟨aw,aq⟩
  ·refine Am f Z aw (An (Ah (Al (Ae (Bd aq λax ay aq=>AX T27 f Z Z Z h0 ay λaz aA a aB aC f=>Aw m AY f Z Z aB λa f=>Ac f Z λa f=>Aa (Aj (Ab f Z λa f=>Ab f Z λa f=>Bd aq λaD aE aq=>A2 f Z call93 (Wk.h m aC aE) λaF w aG m a f=>have av:=od1 aG av;AO (R:=(RI .u32)) (xs:=([aD]:LI)) (RI.one _) m T65 f Z Z Z (by decide) (All2.cons Z (All2.nil _)) λaH aI w a m aJ f=>Bd aq λaK aL aq=>A6 (RI.one _) 1 m av Z T65 Z (by decide) f Z Z Z (Ow.src (j:=0) aJ m Z) aL λaM aN w a m aO f=>Ac f Z λa f=>Aa (Aj (Ai f Z Z AB λa f=>Ab f Z λa f=>Aa (have m:=m.fr 1;have m:=m.eraseAt 1;?_))))))))))
   obtain rfl:=sj aq
   exact⟨_,Z,_,_,Z,_,aN,aM,(gt au aG),f.k Z,m,aO⟩
  ·refine Ak f Z aw (AE Z ?_)
   obtain rfl:=sj aq
   obtain rfl:=ar _ rfl
   exact⟨_,Z,_,an,ao,au,f.k Z,m,av⟩
 ·rintro a w ⟨af,rfl,ag,ah,ai,aP,f,m,aQ⟩
  refine Ae (Ab f Z λa f=>Ac f Z λa f=>Aa (Ar ?_))
  obtain rfl:=sj hd
  exact⟨[ah],f.g Z,f.d,_,[ai],aP,m,_,_,Z,Z,aQ⟩
theorem Wk.W1 {x0:Int}(m:Mem W G w (H)){y:Int}(hd:D.W1 x0=some y):
  Calls prog 125 #[iv x0] w (Res W G H (λ_ Ho v=>Ho=[]∧v=(.int .u32 y))):=by
 refine Au (args:=[iv x0]) (N:=6) [.tmp 2] func125 Z Z (lb Z) Z λa f=> ?_
 unfold D.W1 at hd
 refine Ae (Ac f Z λa f=>AF (Ab f Z λa f=> ?_))
 obtain⟨aa,hd⟩:=CL hd
 refine l_o f (r_shl (f.e Z) (f.e Z) aa) λa f=>Ai f Z Z CA λa f=>Ac f Z λa f=>Aa (Ar ?_)
 obtain rfl:=sj hd
 exact⟨[(.int .u32 (IntKind.u32.wrap ((ishl .u32 1 x0)-1)))],f.g Z,f.d,_,[],gr,m,Z,Z⟩
theorem Wk.F0 {v0:Value}{x0:LI}(m:Mem W G w (H))(h0:RSl (RI .u32) G v0 x0){y:Int}(hd:D.F0 x0=some y):
  Calls prog 89 #[v0] w (Res W G H (λ_ Ho v=>Ho=[]∧v=(.int .u32 y))):=by
 refine Au (args:=[v0]) (N:=6) [.tmp 2] func89 Z Z (lb Z) Z λa f=> ?_
 unfold D.F0 at hd
 refine Ae (Ac f Z λa f=>AF (Ab f Z λa f=>AN underlying67 f Z Z h0 λa f=>Bd hd λaa ab hd=>A2 f Z call125 (Wk.W1 m ab) λac w ad m a f=>Ac f Z λa f=>Aa (Ar ?_)))
 obtain rfl:=sj hd
 exact⟨[(.int .u32 aa)],f.g Z,f.d,_,[],ad,m,Z,Z⟩
theorem Wk.k0 {x0:Int}(hW:DM W)(m:Mem W G w (H)){y:Int}(hd:D.k0 x0=some y):
  Calls prog 117 #[(.int .u32 x0)] w (Res W G H (λ_ Ho v=>Ho=[]∧v=(iv y))):=by
 refine Au (args:=[(.int .u32 x0)]) (N:=5) [.tmp 2] func117 Z Z (lb Z) Z λa f=> ?_
 unfold D.k0 at hd
 refine Ae (Ac f Z λa f=>AF (Ab f Z λa f=>Bd hd λaa ab hd=>A2 f Z call136 (Wk.D1 hW m ab) λac w ad m a f=>Ac f Z λa f=>Aa (Ar ?_)))
 obtain rfl:=sj hd
 exact⟨[iv aa],f.g Z,f.d,_,[],ad,m,Z,Z⟩
theorem Wk.o {x0:Int}(hW:DM W)(m:Mem W G w (H)){y:(LI)}(hd:D.o x0=some y):
  Calls prog 69 #[(.int .u32 x0)] w (Res W G H (λG' Ho v=>∃r0:Value,∃i0:Itm,Ho=[i0]∧r0=v∧Ow R0 3 G' i0 r0 y)):=by
 refine Au (args:=[(.int .u32 x0)]) (N:=17) [.tmp 2] func69 Z Z (lb Z) Z λa f=> ?_
 unfold D.o at hd
 refine Ae (Ac f Z λa f=>AF (AO (R:=R0) (xs:=([]:LI)) (RI.one _) m T82 f Z Z Z (by decide) (All2.nil _) λaa ab w a m ac f=>Ac f Z λa f=>Aa (Ah (Bd hd λad ae hd=> ?_))))
 refine AL (λa w=>∃af:LI,af=ad∧∃(ag:GH) (ah:Value) (ai:Itm),GLe G ag∧Fr a 17 [(3,ah)]∧Mem W ag w (ai::H)∧Ow R0 3 ag ai ah af) ?_ ?_
 ·refine Al (AM (λaj a w=>∃ak:Int,∃al:LI,(ak,al)=aj∧∃(am:GH) (an:Value) (ao:Itm),GLe G am∧Fr a 17 [(0,(.int .u32 ak)),(3,an)]∧Mem W am w (ao::H)∧Ow R0 3 am ao an al) ae ⟨_,_,Z,_,ab,aa,gr,f.k Z,m,ac⟩ ?_)
  clear ae f m
  rintro aj ap aq ar a w ⟨ak,al,rfl,am,an,ao,au,f,m,av⟩
  refine Ah (Ae (Ab f Z λa f=>Ai f Z Z Cw λa f=>Aa ?_))
  rcases Ag aq with⟨aw,aq⟩|⟨aw,aq⟩
  ·refine Am f Z aw (An (Ah (Al (Aj (Ab f Z λa f=>Ab f Z λa f=>Bd aq λax ay aq=>A2 f Z call117 (Wk.k0 hW m ay) λaz w aA m a f=>have av:=od1 aA av;AO (R:=R0) (xs:=([ax]:LI)) (RI.one _) m T82 f Z Z Z (by decide) (All2.cons Z (All2.nil _)) λaB aC w a m aD f=>Bd aq λaE aF aq=>A6 (RI.one _) 1 m av Z T82 Z (by decide) f Z Z Z (Ow.src (j:=0) aD m Z) aF λaG aH w a m aI f=>Ac f Z λa f=>Aa (Aj (Ab f Z λa f=>Ab f Z λa f=>Ai f Z Z CA λa f=>Ai f Z Z Dx λa f=>Ac f Z λa f=>Aa (have m:=m.fr 1;have m:=m.eraseAt 1;?_))))))))
   obtain rfl:=sj aq
   exact⟨_,Z,_,_,Z,_,aH,aG,(gt au aA),f.k Z,m,aI⟩
  ·refine Ak f Z aw (AE Z ?_)
   obtain rfl:=sj aq
   obtain rfl:=ar _ rfl
   exact⟨_,Z,_,an,ao,au,f.k Z,m,av⟩
 ·rintro a w ⟨af,rfl,ag,ah,ai,aJ,f,m,aK⟩
  refine Ae (Ab f Z λa f=>Ac f Z λa f=>Aa (Ar ?_))
  obtain rfl:=sj hd
  exact⟨[ah],f.g Z,f.d,_,[ai],aJ,m,_,_,Z,Z,aK⟩
theorem Wk.C0 {v0:Value}{x0:LI}{x1 x2:Int}(hW:DM W)(m:Mem W G w (H))(h0:RSl (RI .u32) G v0 x0){y:Int}(hd:D.C0 x0 x1 x2=some y):
  Calls prog 124 #[v0,iv x1,(.int .u32 x2)] w (Res W G H (λ_ Ho v=>Ho=[]∧v=(.int .u32 y))):=by
 refine Au (args:=[v0,iv x1,(.int .u32 x2)]) (N:=35) [.tmp 6] func124 Z Z (lb Z) Z λa f=> ?_
 unfold D.C0 at hd
 refine Ae (Ac f Z λa f=>AF (Ab f Z λa f=>Bd hd λaa ab hd=>A2 f Z call91 (Wk.a m ab) λac w ad m a f=>have h0:=rd1 ad h0;Ac f Z λa f=>Aa (Bd hd λae af hd=>Al (AM (λag a w=>∃ah:Int,ah=ag∧∃(ai:GH),GLe ac ai∧Fr a 35 [(0,v0),(2,(.int .u32 x2)),(7,(.int .u32 ah))]∧Mem W ai w (H)) af ⟨_,Z,_,gr,f.k Z,m⟩ ?_))))
 clear af f m
 rintro ag aj ak al a w ⟨ah,rfl,ai,am,f,m⟩
 refine have h0:=rd1 am h0;Al (Ae (Ab f Z λa f=>Ac f Z λa f=>Aa (Ah (Ae (Ab f Z λa f=>Bd ak λan ao ak=>BK f Z call69 (Wk.o hW m ao) λap aq ar w au m av a f=>have h0:=rd1 au h0;BH 0 m av Z underlying82 f Z Z λa f=>Ab f Z λa f=>Aa (Bd ak λaw ax ak=> ?_))))))
 refine AL (λa w=>∃ay:Int,ay=aw∧∃(az:GH),GLe ar az∧Fr a 35 [(0,v0),(2,(.int .u32 x2)),(7,(.int .u32 ah)),(8,(.int .u32 ay))]∧Mem W az w (H)) ?_ ?_
 ·refine Al (AM (λaA a w=>∃aB:Int,∃aC:Int,(aB,aC)=aA∧∃(aD:GH),GLe ar aD∧Fr a 35 [(0,v0),(2,(.int .u32 x2)),(7,(.int .u32 ah)),(8,(.int .u32 aB)),(15,ap),(16,(iv (an.length:Int))),(17,iv aC)]∧Mem W aD w (aq::H)) ax ⟨_,_,Z,_,gr,f.k Z,m⟩ ?_)
  clear ax f m
  rintro aA aE aF aG a w ⟨aB,aC,rfl,aD,aH,f,m⟩
  refine have h0:=rd1 aH h0;have av:=od1 aH av;Ae (Ai f Z Z AP λa f=>Aa (Ah ?_))
  rcases Ag aF with⟨aI,aF⟩|⟨aI,aF⟩
  ·refine Am f Z aI (An (Ah (Al (Ae (Bd aF λaJ aK aF=>Bm 0 m av Z T82 f Z Z Z aK λaL a aM f=>Bl 0 m av Z Pl3 f Z Z aM aK λaN a aO f=> ?_)))))
   subst aO
   refine Ac f Z λa f=>Aa (Aj (Ab f Z λa f=>Ab f Z λa f=>Ab f Z λa f=>Bd aF λaP aQ aF=>AX T67 f Z Z Z h0 aQ λaR aS a aT aU f=> ?_))
   subst aU
   refine Aw m CU f Z Z aT λa f=>Ab f Z λa f=>Ai f Z Z Dx λa f=>Ai f Z Z EK λa f=>Ac f Z λa f=>Aa (Aj (Ai f Z Z AB λa f=>Ab f Z λa f=>Aa ?_))
   obtain rfl:=sj aF
   exact⟨_,Z,_,_,Z,_,aH,f.k Z,m⟩
  ·refine Ak f Z aI (AE Z (have m:=m.dp 1;?_))
   obtain rfl:=sj aF
   obtain rfl:=aG _ rfl
   exact⟨_,Z,_,aH,f.k Z,m⟩
 ·rintro a w ⟨ay,rfl,az,aV,f,m⟩
  refine Ah (Ae (Ab f Z λa f=>Ab f Z λa f=>Ai f Z Z Bf λa f=>Aa ?_))
  rcases Ag ak with⟨aW,ak⟩|⟨aW,ak⟩
  ·refine Am f Z aW (Ae (Ab f Z λa f=>Ac f Z λa f=>Aa (Ar ?_)))
   obtain rfl:=sj ak
   obtain rfl:=al _ rfl
   obtain rfl:=sj hd
   exact⟨[(.int .u32 ah)],f.g Z,f.d,_,[],(gt ad (gt am (gt au aV))),m,Z,Z⟩
  ·refine Ak f Z aW (An (Aj (Ab f Z λa f=>Ac f Z λa f=>Aa ?_)))
   obtain rfl:=sj ak
   exact⟨_,Z,_,Z,_,(gt am (gt au aV)),f.k Z,m⟩
theorem Wk.p0 {v0:Value}{x0:LI}{x1:Int}(hW:DM W)(m:Mem W G w (H))(h0:RSl (RI .u32) G v0 x0){y:Bool}(hd:D.p0 x0 x1=some y):
  Calls prog 88 #[v0,(.int .u32 x1)] w (Res W G H (λ_ Ho v=>Ho=[]∧v=(.bool y))):=by
 refine Au (args:=[v0,(.int .u32 x1)]) (N:=16) [.tmp 4] func88 Z Z (lb Z) Z λa f=> ?_
 unfold D.p0 at hd
 refine Ae (Ac f Z λa f=>AF (Ab f Z λa f=>Ai f Z Z Cw λa f=>Ab f Z λa f=>Bd hd λaa ab hd=> ?_))
 refine Bk 8 (λa w=>∃ac,GLe G ac∧Mem W ac w (H)∧Fr a 16 [(0,v0),(1,(.int .u32 x1)),(5,(.int .u32 x1)),(6,(.bool (x1 !=0))),(7,(.bool (x1 !=0))),(15,(.bool aa))]) ?_ ?_
 ·rcases Ag ab with⟨ad,ab⟩|⟨ad,ab⟩
  ·refine Ap f ad (Ab f Z λa f=>Ap f ad (Ab f Z λa f=>Ap f ad (Bd ab λae af ab=>A2 f Z call117 (Wk.k0 hW m af) λag w ah m a f=>have h0:=rd1 ah h0;Ap f ad (Ab f Z λa f=>Ap f ad (Bd ab λai aj ab=>A2 f Z call124 (Wk.C0 hW m h0 aj) λak w al m a f=>Ap f ad (Ab f Z λa f=>Ap f ad (Ai f Z Z Bf λa f=>l_o f (AK (f.e Z) ad (f.e Z)) λa f=> ?_)))))))
   obtain rfl:=sj ab
   exact⟨_,(gt ah al),m,f.k Z⟩
  ·refine Aq f ad λa f=>Aq f ad λa f=>Aq f ad λa f=>Aq f ad λa f=>Aq f ad λa f=>Aq f ad λa f=>Aq f ad λa f=>l_o f (AI (f.e Z) ad (f.e Z)) λa f=> ?_
   obtain rfl:=sj ab
   exact⟨_,gr,m,f.k Z⟩
 ·rintro a w ⟨ac,am,m,f⟩
  refine Ac f Z λa f=>Aa (Ar ?_)
  obtain rfl:=sj hd
  exact⟨[(.bool aa)],f.g Z,f.d,_,[],am,m,Z,Z⟩
end Go.Proofs.YtljcmdbpfeffcaaGreatDoor

set_option maxRecDepth 100000
namespace Go.Proofs.YtljcmdbpfeffcaaGreatDoor
open Go Go.Sx
open Go.Proofs.Tryz Go.Proofs.YtljcmdbpfeffcaaGreatDoor.Tryz IntKind
variable {W w : World} {G : GH} {H : List Itm}
theorem Pl65 :Cj prog 65:=isAgg65
theorem Pl67 :Cj prog 67:=isAgg67
theorem Cd :Agg prog 38 4:=⟨isAgg38,sizeOf38⟩
theorem Wk.L {aa:Value}{ab:LL}(m:Mem W G w (H))(ac:R2 G aa ab){y:(LI)}(hd:D.L ab=some y):
  Calls prog 50 #[(.agg #[aa])] w (Res W G H (λG' Ho v=>∃r0:Value,∃i0:Itm,Ho=[i0]∧r0=v∧Ow (RI .u32) 74 G' i0 r0 y)):=by
 refine Au (args:=[(.agg #[aa])]) (N:=21) [.tmp 2] func50 Z Z (lb Z) Z λa f=> ?_
 unfold D.L at hd
 refine Ae (A3 (cs:=[aa]) m f Z Z Z λad w a m f=>Ac f Z λa f=>AF (AO (R:=(RI .u32)) (xs:=([]:LI)) (RI.one _) m T67 f Z Z Z (by decide) (All2.nil _) λae af w a m ag f=>Ac f Z λa f=>Aa (Ah (Ae (AQ underlying29 Z sizeOf27 f Z λa f=>Ao 1 0 m AW f Z Z Z Z λa f=>AN underlying27 f Z Z ac λa f=>Ab f Z λa f=>Aa (Bd hd λah ai hd=> ?_))))))
 refine AL (λa w=>∃aj:LI,aj=ah∧∃(ak:GH) (al:Value) (am:Itm),GLe G ak∧Fr a 21 [(3,al)]∧Mem W ak w (am::H)∧Ow (RI .u32) 74 ak am al aj) ?_ ?_
 ·refine Al (have m:=m.eraseAt 1;AM (λan a w=>∃ao:LI,∃ap:Int,(ao,ap)=an∧∃(aq:GH) (ar:Value) (au:Itm),GLe G aq∧Fr a 21 [(3,ar),(8,aa),(9,(iv (ab.length:Int))),(10,iv ap)]∧Mem W aq w (au::H)∧Ow (RI .u32) 74 aq au ar ao) ai ⟨_,_,Z,_,af,ae,gr,f.k Z,m,ag⟩ ?_)
  clear ai f m
  rintro an av aw ax a w ⟨ao,ap,rfl,aq,ar,au,ay,f,m,az⟩
  refine have ac:=rd2 ay ac;Ae (Ai f Z Z AP λa f=>Aa (Ah ?_))
  rcases Ag aw with⟨aA,aw⟩|⟨aA,aw⟩
  ·refine Am f Z aA (An (Ah (Al (Ae (Bd aw λaB aC aw=>AX T27 f Z Z Z ac aC λaD aE a aF aG f=>Aw m AY f Z Z aF λa f=>Ac f Z λa f=>Aa (Aj (Ab f Z λa f=>Ab f Z λa f=>Bd aw λaH aI aw=>A2 f Z call93 (Wk.h m aG aI) λaJ w aK m a f=>have az:=od1 aK az;AO (R:=(RI .u32)) (xs:=([aH]:LI)) (RI.one _) m T67 f Z Z Z (by decide) (All2.cons Z (All2.nil _)) λaL aM w a m aN f=>Bd aw λaO aP aw=>A6 (RI.one _) 1 m az Z T67 Z (by decide) f Z Z Z (Ow.src (j:=0) aN m Z) aP λaQ aR w a m aS f=>Ac f Z λa f=>Aa (Aj (Ai f Z Z AB λa f=>Ab f Z λa f=>Aa (have m:=m.fr 1;have m:=m.eraseAt 1;?_))))))))))
   obtain rfl:=sj aw
   exact⟨_,Z,_,_,Z,_,aR,aQ,(gt ay aK),f.k Z,m,aS⟩
  ·refine Ak f Z aA (AE Z ?_)
   obtain rfl:=sj aw
   obtain rfl:=ax _ rfl
   exact⟨_,Z,_,ar,au,ay,f.k Z,m,az⟩
 ·rintro a w ⟨aj,rfl,ak,al,am,aT,f,m,aU⟩
  refine Ae (Ab f Z λa f=>Ac f Z λa f=>Aa (Ar ?_))
  obtain rfl:=sj hd
  exact⟨[al],f.g Z,f.d,_,[am],aT,m,_,_,Z,Z,aU⟩
theorem Wk.g {x0 x1:Int}(m:Mem W G w (H)){y:Bool}(hd:D.g x0 x1=some y):
  Calls prog 90 #[(.int .u32 x0),iv x1] w (Res W G H (λ_ Ho v=>Ho=[]∧v=(.bool y))):=by
 refine Au (args:=[(.int .u32 x0),iv x1]) (N:=10) [.tmp 4] func90 Z Z (lb Z) Z λa f=> ?_
 unfold D.g at hd
 refine Ae (Ac f Z λa f=>AF (Ab f Z λa f=>Ab f Z λa f=> ?_))
 obtain⟨aa,hd⟩:=CL hd
 refine l_o f (Ek (f.e Z) (f.e Z) aa) λa f=>Ai f Z Z Dx λa f=>Ai f Z Z Bf λa f=>Ac f Z λa f=>Aa (Ar ?_)
 obtain rfl:=sj hd
 exact⟨[(.bool ((iand .u32 (BZ .u32 x0 x1) 1)==1))],f.g Z,f.d,_,[],gr,m,Z,Z⟩
theorem Wk.i0 {v0 v1:Value}{x0 x1:LI}(m:Mem W G w (H))(h0:RSl (RI .u32) G v0 x0)(h1:RSl (RI .u32) G v1 x1){y:Bool}(hd:D.i0 x0 x1=some y):
  Calls prog 49 #[v0,v1] w (Res W G H (λ_ Ho v=>Ho=[]∧v=(.bool y))):=by
 refine Au (args:=[v0,v1]) (N:=41) [.tmp 4] func49 Z Z (lb Z) Z λa f=> ?_
 unfold D.i0 at hd
 refine Ae (Ac f Z λa f=>Aa (Ah (Ae (Ab f Z λa f=>AN underlying67 f Z Z h0 λa f=>Ab f Z λa f=>Aa (Bd hd λaa ab hd=> ?_)))))
 refine AL (λa w=>∃q_191':Unit,aa= .inl q_191'∧∃(ac:GH),GLe G ac∧Fr a 41 []∧Mem W ac w (H)) ?_ ?_
 ·refine Al (AM (λad a w=>∃ae:Int,ae=ad∧∃(af:GH),GLe G af∧Fr a 41 [(1,v1),(10,v0),(11,(iv (x0.length:Int))),(12,iv ae)]∧Mem W af w (H)) ab ⟨_,Z,_,gr,f.k Z,m⟩ ?_)
  clear ab f m
  rintro ad ag ah ai a w ⟨ae,rfl,af,aj,f,m⟩
  refine have h1:=rd1 aj h1;have h0:=rd1 aj h0;Ae (Ai f Z Z AP λa f=>Aa (Ah ?_))
  rcases Ag ah with⟨ak,ah⟩|⟨ak,ah⟩
  ·refine Am f Z ak (An (Ah (Al (Ae (Ab f Z λa f=>Bd ah λal am ah=>AX T67 f Z Z Z h0 am λan ao a ap aq f=> ?_)))))
   subst aq
   refine Aw m CU f Z Z ap λa f=>Ac f Z λa f=>Ac f Z λa f=>AF (Ac f Z λa f=>Aa (Ah (Ae (Ab f Z λa f=>AN underlying65 f Z Z h1 λa f=>Ab f Z λa f=>Aa (Bd ah λar au ah=> ?_)))))
   refine AL (λa w=>∃av:Int,av=ar∧∃(aw:GH),GLe af aw∧Fr a 41 [(1,v1),(5,iv ae),(6,(.int .u32 al)),(7,(.int .u32 av)),(10,v0),(11,(iv (x0.length:Int))),(12,iv ae)]∧Mem W aw w (H)) ?_ ?_
   ·refine Al (AM (λax a w=>∃ay:Int,∃az:Int,(ay,az)=ax∧∃(aA:GH),GLe af aA∧Fr a 41 [(1,v1),(5,iv ae),(6,(.int .u32 al)),(7,(.int .u32 ay)),(10,v0),(11,(iv (x0.length:Int))),(12,iv ae),(17,v1),(18,(iv (x1.length:Int))),(19,iv az)]∧Mem W aA w (H)) au ⟨_,_,Z,_,gr,f.k Z,m⟩ ?_)
    clear au f m
    rintro ax aB aC aD a w ⟨ay,az,rfl,aA,aE,f,m⟩
    refine have h1:=rd1 aE h1;Ae (Ai f Z Z AP λa f=>Aa (Ah ?_))
    rcases Ag aC with⟨aF,aC⟩|⟨aF,aC⟩
    ·refine Am f Z aF (An (Ah (Al (Ae (Bd aC λaG aH aC=>AX T65 f Z Z Z h1 aH λaI aJ a aK aL f=> ?_)))))
     subst aL
     refine Aw m CU f Z Z aK λa f=>Ac f Z λa f=>AF (Ab f Z λa f=>Ab f Z λa f=>Bd aC λaM aN aC=>A2 f Z call90 (Wk.g m aN) λaO w aP m a f=>Aa ?_)
     rcases Ag aC with⟨aQ,aC⟩|⟨aQ,aC⟩
     ·refine Am f Z aQ (Aj (Ab f Z λa f=>Ab f Z λa f=>Ai f Z Z EK λa f=>Ac f Z λa f=>Aa (Aj (Ai f Z Z AB λa f=>Ab f Z λa f=>Aa ?_))))
      obtain rfl:=sj aC
      exact⟨_,Z,_,_,Z,_,(gt aE aP),f.k Z,m⟩
     ·refine Ak f Z aQ (An (Aj (Ai f Z Z AB λa f=>Ab f Z λa f=>Aa ?_)))
      obtain rfl:=sj aC
      exact⟨_,Z,_,_,Z,_,(gt aE aP),f.k Z,m⟩
    ·refine Ak f Z aF (AE Z ?_)
     obtain rfl:=sj aC
     obtain rfl:=aD _ rfl
     exact⟨_,Z,_,aE,f.k Z,m⟩
   ·rintro a w ⟨av,rfl,aw,aR,f,m⟩
    refine Ae (Ab f Z λa f=>Ab f Z λa f=>Bd ah λaS aT ah=>A2 f Z call90 (Wk.g m aT) λaU w aV m a f=>l_o f (Bj (f.e Z)) λa f=>Ab f Z λa f=> ?_)
    refine Bk 5 (λa w=>∃aW,GLe aU aW∧Mem W aW w (H)∧Fr a 41 [(1,v1),(5,iv ae),(6,(.int .u32 al)),(7,(.int .u32 av)),(10,v0),(11,(iv (x0.length:Int))),(12,iv ae),(30,(.int .u32 av)),(31,iv ae),(32,(.bool aS)),(33,(.bool (!aS))),(34,(.bool (!aS))),(39,(.bool ((!aS)||((iandNot .u32 al av) !=0))))]) ?_ ?_
    ·rcases Bool.eq_false_or_eq_true (!aS) with aX|aX
     ·exact Aq f aX λa f=>Aq f aX λa f=>Aq f aX λa f=>Aq f aX λa f=>l_o f (AK (f.e Z) aX (f.e Z)) λa f=>⟨_,gr,m,f.weak ⟨Z,Z,Z,Z,Z,Z,Z,Z,Z,Z,Z,Z,by rw[aX];rfl,trivial⟩⟩
     ·exact Ap f aX (Ab f Z λa f=>Ap f aX (Ab f Z λa f=>Ap f aX (Ai f Z Z Dw λa f=>Ap f aX (Ai f Z Z Cw λa f=>l_o f (AI (f.e Z) aX (f.e Z)) λa f=>⟨_,gr,m,f.weak ⟨Z,Z,Z,Z,Z,Z,Z,Z,Z,Z,Z,Z,by rw[aX];rfl,trivial⟩⟩))))
    ·rintro a w ⟨aW,aY,m,f⟩
     refine Aa ?_
     rcases Ag ah with⟨aZ,ah⟩|⟨aZ,ah⟩
     ·refine Am f Z aZ (Ae (Ac f Z λa f=>Aa (Ar ?_)))
      obtain rfl:=sj ah
      obtain rfl:=ai _ rfl
      obtain rfl:=sj hd
      exact⟨[(.bool false)],f.g Z,f.d,_,[],(gt aj (gt aR (gt aV aY))),m,Z,Z⟩
     ·refine Ak f Z aZ (An (Aj (Ai f Z Z AB λa f=>Ab f Z λa f=>Aa ?_)))
      obtain rfl:=sj ah
      exact⟨_,Z,_,Z,_,(gt aj (gt aR (gt aV aY))),f.k Z,m⟩
  ·refine Ak f Z ak (AE Z ?_)
   obtain rfl:=sj ah
   obtain rfl:=ai _ rfl
   exact⟨_,Z,_,aj,f.weak trivial,m⟩
 ·rintro a w ⟨_,rfl,ac,a0,f,m⟩
  refine Ae (Ac f Z λa f=>Aa (Ar ?_))
  obtain rfl:=sj hd
  exact⟨[(.bool true)],f.g Z,f.d,_,[],a0,m,Z,Z⟩
theorem Wk.P0 {aa ab ac:Value}{ad ae af:LL}(hW:DM W)(m:Mem W G w (H))(ag:R2 G aa ad)(ah:R2 G ab ae)(ai:R2 G ac af){y:Bool}(hd:D.P0 ad ae af=some y):
  Calls prog 29 #[(.agg #[aa]),(.agg #[ab,ac])] w (Res W G H (λ_ Ho v=>Ho=[]∧v=(.bool y))):=by
 refine Au (args:=[(.agg #[aa]),(.agg #[ab,ac])]) (N:=100) [.tmp 4] func29 Z Z (lb Z) Z λa f=> ?_
 unfold D.P0 at hd
 refine Ae (A3 (cs:=[aa]) m f Z Z Z λaj w a m f=>A3 (cs:=[ab,ac]) m f Z Z Z λak w a m f=>Ac f Z λa f=>AF (AQ underlying32 Z sizeOf27 f Z λa f=>Ao 0 0 m AW f Z Z Z Z λa f=>AN underlying27 f Z Z ah λa f=>Ac f Z λa f=>Aa (Ah (Ae (Ay 1 0 (ds:=[aa]) m Bh f Z Z Z Z Z λa f=>Bd hd λal am hd=>A2 f Z call44 (Wk.w0 m ag am) λan w ao m a f=>have ag:=rd2 ao ag;have ah:=rd2 ao ah;have ai:=rd2 ao ai;l_o f (Bj (f.e Z)) λa f=>Ab f Z λa f=> ?_)))))
 refine Bk 3 (λa w=>∃ap,GLe an ap∧Mem W ap w (ib ak 32 [ab,ac]::ib aj 29 [aa]::H)∧Fr a 100 [(0,(.agg #[aa])),(1,(.agg #[ab,ac])),(2,pb aj),(3,pb ak),(5,(iv (ae.length:Int))),(17,(.agg #[aa])),(18,(.bool al)),(19,(.bool (!al))),(20,(.bool (!al))),(23,(.bool ((!al)||(decide ((ae.length:Int)<1)))))]) ?_ ?_
 ·rcases Bool.eq_false_or_eq_true (!al) with aq|aq
  ·exact Aq f aq λa f=>Aq f aq λa f=>l_o f (AK (f.e Z) aq (f.e Z)) λa f=>⟨_,gr,m,f.weak ⟨Z,Z,Z,Z,Z,Z,Z,Z,Z,by rw[aq];rfl,trivial⟩⟩
  ·exact Ap f aq (Ab f Z λa f=>Ap f aq (Ai f Z Z AP λa f=>l_o f (AI (f.e Z) aq (f.e Z)) λa f=>⟨_,gr,m,f.weak ⟨Z,Z,Z,Z,Z,Z,Z,Z,Z,by rw[aq];rfl,trivial⟩⟩))
 ·rintro a w ⟨ap,ar,m,f⟩
  refine have ag:=rd2 ar ag;have ah:=rd2 ar ah;have ai:=rd2 ar ai;Ab f Z λa f=> ?_
  refine Bk 3 (λa w=>∃au,GLe ap au∧Mem W au w (ib ak 32 [ab,ac]::ib aj 29 [aa]::H)∧Fr a 100 [(0,(.agg #[aa])),(1,(.agg #[ab,ac])),(2,pb aj),(3,pb ak),(5,(iv (ae.length:Int))),(17,(.agg #[aa])),(18,(.bool al)),(19,(.bool (!al))),(20,(.bool (!al))),(23,(.bool ((!al)||(decide ((ae.length:Int)<1))))),(24,(.bool ((!al)||(decide ((ae.length:Int)<1))))),(27,(.bool (((!al)||(decide ((ae.length:Int)<1)))||(decide ((16:Int)<(ae.length:Int))))))]) ?_ ?_
  ·rcases Bool.eq_false_or_eq_true ((!al)||(decide ((ae.length:Int)<1))) with av|av
   ·exact Aq f av λa f=>Aq f av λa f=>l_o f (AK (f.e Z) av (f.e Z)) λa f=>⟨_,gr,m,f.weak ⟨Z,Z,Z,Z,Z,Z,Z,Z,Z,Z,Z,by rw[av];rfl,trivial⟩⟩
   ·exact Ap f av (Ab f Z λa f=>Ap f av (Ai f Z Z CK λa f=>l_o f (AI (f.e Z) av (f.e Z)) λa f=>⟨_,gr,m,f.weak ⟨Z,Z,Z,Z,Z,Z,Z,Z,Z,Z,Z,by rw[av];rfl,trivial⟩⟩))
  ·rintro a w ⟨au,aw,m,f⟩
   refine have ag:=rd2 aw ag;have ah:=rd2 aw ah;have ai:=rd2 aw ai;Ab f Z λa f=> ?_
   refine Bk 7 (λa w=>∃ax,GLe au ax∧Mem W ax w (ib ak 32 [ab,ac]::ib aj 29 [aa]::H)∧Fr a 100 [(0,(.agg #[aa])),(1,(.agg #[ab,ac])),(2,pb aj),(3,pb ak),(5,(iv (ae.length:Int))),(17,(.agg #[aa])),(18,(.bool al)),(19,(.bool (!al))),(20,(.bool (!al))),(23,(.bool ((!al)||(decide ((ae.length:Int)<1))))),(24,(.bool ((!al)||(decide ((ae.length:Int)<1))))),(27,(.bool (((!al)||(decide ((ae.length:Int)<1)))||(decide ((16:Int)<(ae.length:Int)))))),(28,(.bool (((!al)||(decide ((ae.length:Int)<1)))||(decide ((16:Int)<(ae.length:Int)))))),(35,(.bool ((((!al)||(decide ((ae.length:Int)<1)))||(decide ((16:Int)<(ae.length:Int))))||((af.length:Int) !=(i64.wrap ((ae.length:Int)-1))))))]) ?_ ?_
   ·rcases Bool.eq_false_or_eq_true (((!al)||(decide ((ae.length:Int)<1)))||(decide ((16:Int)<(ae.length:Int)))) with ay|ay
    ·exact Aq f ay λa f=>Aq f ay λa f=>Aq f ay λa f=>Aq f ay λa f=>Aq f ay λa f=>Aq f ay λa f=>l_o f (AK (f.e Z) ay (f.e Z)) λa f=>⟨_,gr,m,f.weak ⟨Z,Z,Z,Z,Z,Z,Z,Z,Z,Z,Z,Z,Z,by rw[ay];rfl,trivial⟩⟩
    ·exact Ap f ay (AQ underlying32 Z sizeOf27 f Z λa f=>Ap f ay (Ao 0 1 m AW f Z Z Z Z λa f=>Ap f ay (AN underlying27 f Z Z ai λa f=>Ap f ay (Ab f Z λa f=>Ap f ay (Ai f Z Z CA λa f=>Ap f ay (Ai f Z Z Cw λa f=>l_o f (AI (f.e Z) ay (f.e Z)) λa f=>⟨_,gr,m,f.weak ⟨Z,Z,Z,Z,Z,Z,Z,Z,Z,Z,Z,Z,Z,by rw[ay];rfl,trivial⟩⟩))))))
   ·rintro a w ⟨ax,az,m,f⟩
    refine have ag:=rd2 az ag;have ah:=rd2 az ah;have ai:=rd2 az ai;Ab f Z λa f=>Bd hd λaA aB hd=> ?_
    refine Bk 6 (λa w=>∃aC,GLe ax aC∧Mem W aC w (ib ak 32 [ab,ac]::ib aj 29 [aa]::H)∧Fr a 100 [(0,(.agg #[aa])),(1,(.agg #[ab,ac])),(2,pb aj),(3,pb ak),(5,(iv (ae.length:Int))),(17,(.agg #[aa])),(18,(.bool al)),(19,(.bool (!al))),(20,(.bool (!al))),(23,(.bool ((!al)||(decide ((ae.length:Int)<1))))),(24,(.bool ((!al)||(decide ((ae.length:Int)<1))))),(27,(.bool (((!al)||(decide ((ae.length:Int)<1)))||(decide ((16:Int)<(ae.length:Int)))))),(28,(.bool (((!al)||(decide ((ae.length:Int)<1)))||(decide ((16:Int)<(ae.length:Int)))))),(35,(.bool ((((!al)||(decide ((ae.length:Int)<1)))||(decide ((16:Int)<(ae.length:Int))))||((af.length:Int) !=(i64.wrap ((ae.length:Int)-1)))))),(36,(.bool ((((!al)||(decide ((ae.length:Int)<1)))||(decide ((16:Int)<(ae.length:Int))))||((af.length:Int) !=(i64.wrap ((ae.length:Int)-1)))))),(42,(.bool aA))]) ?_ ?_
    ·rcases Ag aB with⟨aD,aB⟩|⟨aD,aB⟩
     ·refine Aq f aD λa f=>Aq f aD λa f=>Aq f aD λa f=>Aq f aD λa f=>Aq f aD λa f=>l_o f (AK (f.e Z) aD (f.e Z)) λa f=> ?_
      obtain rfl:=sj aB
      exact⟨_,gr,m,f.k Z⟩
     ·refine Ap f aD (AQ underlying32 Z sizeOf27 f Z λa f=>Ap f aD (Ao 0 1 m AW f Z Z Z Z λa f=>Ap f aD (Ab f Z λa f=>Ap f aD (Bd aB λaE aF aB=>A2 f Z call87 (Wk.J m ai aF) λaG w aH m a f=>Ap f aD (l_o f (Bj (f.e Z)) λa f=>l_o f (AI (f.e Z) aD (f.e Z)) λa f=> ?_)))))
      obtain rfl:=sj aB
      exact⟨_,aH,m,f.k Z⟩
    ·rintro a w ⟨aC,aI,m,f⟩
     refine have ag:=rd2 aI ag;have ah:=rd2 aI ah;have ai:=rd2 aI ai;Aa ?_
     rcases Ag hd with⟨aJ,hd⟩|⟨aJ,hd⟩
     ·refine Am f Z aJ (Ae (Ac f Z λa f=>Aa (Ar (have m:=m.dp 2;?_))))
      obtain rfl:=sj hd
      exact⟨[(.bool false)],f.g Z,f.d,_,[],(gt ao (gt ar (gt aw (gt az aI)))),m,Z,Z⟩
     ·refine Ak f Z aJ (An (Ah (Ae (AQ underlying32 Z sizeOf27 f Z λa f=>Ao 0 0 m AW f Z Z Z Z λa f=>AN underlying27 f Z Z ah λa f=>Ab f Z λa f=>Aa (Bd hd λaK aL hd=> ?_)))))
      refine AL (λa w=>∃q_80':Unit,aK= .inl q_80'∧∃(aM:GH),GLe aC aM∧Fr a 100 [(2,pb aj),(3,pb ak)]∧Mem W aM w (ib aj 29 [aa]::ib ak 32 [ab,ac]::H)) ?_ ?_
      ·refine Al (have m:=m.fr 1;AM (λaN a w=>∃aO:Int,aO=aN∧∃(aP:GH),GLe aC aP∧Fr a 100 [(2,pb aj),(3,pb ak),(44,ab),(45,(iv (ae.length:Int))),(46,iv aO)]∧Mem W aP w (ib aj 29 [aa]::ib ak 32 [ab,ac]::H)) aL ⟨_,Z,_,gr,f.k Z,m⟩ ?_)
       clear aL f m
       rintro aN aQ aR aS a w ⟨aO,rfl,aP,aT,f,m⟩
       refine have ah:=rd2 aT ah;have ag:=rd2 aT ag;Ae (Ai f Z Z AP λa f=>Aa (Ah ?_))
       rcases Ag aR with⟨aU,aR⟩|⟨aU,aR⟩
       ·refine Am f Z aU (An (Ah (Al (Ae (Bd aR λaV aW aR=>AX T27 f Z Z Z ah aW λaX aY a aZ a0 f=>Aw m AY f Z Z aZ λa f=>Ac f Z λa f=>AF (Ab f Z λa f=>AQ underlying29 Z sizeOf27 f Z λa f=>Ao 0 0 m AW f Z Z Z Z λa f=>AN underlying27 f Z Z ag λa f=>Bd aR λa1 a2 aR=>A2 f Z call45 (Wk.R m a0 a2) λa3 w a4 m a f=>l_o f (Bj (f.e Z)) λa f=>Aa ?_))))))
        rcases Ag aR with⟨a5,aR⟩|⟨a5,aR⟩
        ·refine Am f Z a5 (Ae (Ac f Z λa f=>Aa (Ar (have m:=m.dp 2;?_))))
         obtain rfl:=sj aR
         obtain rfl:=aS _ rfl
         obtain rfl:=sj hd
         exact⟨[(.bool false)],f.g Z,f.d,_,[],(gt ao (gt ar (gt aw (gt az (gt aI (gt aT a4)))))),m,Z,Z⟩
        ·refine Ak f Z a5 (An (Aj (Ai f Z Z AB λa f=>Ab f Z λa f=>Aa ?_)))
         obtain rfl:=sj aR
         exact⟨_,Z,_,Z,_,(gt aT a4),f.k Z,m⟩
       ·refine Ak f Z aU (AE Z ?_)
        obtain rfl:=sj aR
        obtain rfl:=aS _ rfl
        exact⟨_,Z,_,aT,f.k Z,m⟩
      ·rintro a w ⟨_,rfl,aM,a6,f,m⟩
       refine have ag:=rd2 a6 ag;have ah:=rd2 a6 ah;have ai:=rd2 a6 ai;Ah (Bg 7 AV (by kernel_rfl) m (Bc (i:=0) (ds:=[ab,ac]) 7 1 DH Z Z Z Z (by kernel_rfl) Z f Z Z Z λa f=>Br 2 7 underlying32 Z sizeOf27 Z f Z λa f=>Bo 3 7 1 AW Z Z Z f Z λa f=>Bw 1 Z λa7 w a8 m a9 a9=>have ah:=rd2 a8 ah;have ai:=rd2 a8 ai;have ag:=rd2 a8 ag;Bd hd λba bb hd=>BK f Z call33 (Wk.v0 m ah ai bb) λbc bd be w bf m bg a f=>have ah:=rd2 bf ah;have ag:=rd2 bf ag;Aa (a9 be [bd] _ _ bf m (Bw 4 Z λbh w bi m bj bj=>have ah:=rd2 bi ah;have bg:=od1 bi bg;have ag:=rd2 bi ag;Bd hd λbk bl hd=>BK f Z call32 (Wk.v m ah bl) λbm bn bo w bp m bq a f=>have bg:=od1 bp bg;have ag:=rd2 bp ag;Aa (bj bo [bn,bd] _ _ bp m (q_p 5 7 Z f (λ_=>Bq (f.e Z)) λa f=>q_p 6 7 Z f (λ_=>Bq (f.e Z)) λa f=>A4 λbr w bs m=>have bq:=od1 bs bq;have bg:=od1 bs bg;?_))))))
       refine have ag:=rd2 bs ag;Aa (Ah (Ae (Ab f Z λa f=>Ab f Z λa f=>Bd hd λbt bu hd=>A9 f Z call89 (Ow.lendCall (RI.mono _) 1 bg m Z (λbv bw m bx=>Wk.F0 m bx bu) (λ_ _ _ _ h=>h)) λbz bA bB w bC m bD a f=> ?_)))
       obtain⟨rfl,rfl⟩:=bD
       refine have bq:=od1 bC bq;have bg:=od1 bC bg;have ag:=rd2 bC ag;Bd hd λbE bF hd=>A9 f Z call88 (Ow.lendCall (RI.mono _) 1 bg m Z (λbG bH m bI=>Wk.p0 hW m bI bF) (λ_ _ _ _ h=>h)) λbJ bK bL w bM m bN a f=> ?_
       obtain⟨rfl,rfl⟩:=bN
       refine have bq:=od1 bM bq;have bg:=od1 bM bg;have ag:=rd2 bM ag;l_o f (Bj (f.e Z)) λa f=>Ab f Z λa f=>Bd hd λbO bP hd=> ?_
       refine Bk 6 (λa w=>∃bQ,GLe bK bQ∧Mem W bQ w (bn::bd::ib aj 29 [aa]::ib ak 32 [ab,ac]::H)∧Fr a 100 [(2,pb aj),(3,pb ak),(8,bc),(9,bm),(62,bc),(63,bc),(64,(.int .u32 bt)),(65,(.bool bE)),(66,(.bool (!bE))),(67,(.bool (!bE))),(73,(.bool bO))]) ?_ ?_
       ·rcases Ag bP with⟨bR,bP⟩|⟨bR,bP⟩
        ·refine Aq f bR λa f=>Aq f bR λa f=>Aq f bR λa f=>Aq f bR λa f=>Aq f bR λa f=>l_o f (AK (f.e Z) bR (f.e Z)) λa f=> ?_
         obtain rfl:=sj bP
         exact⟨_,gr,m,f.k Z⟩
        ·refine Ap f bR (Ay 2 0 (ds:=[aa]) m Bh f Z Z Z Z Z λa f=>Ap f bR (Bd bP λbS bT bP=>BK f Z call50 (Wk.L m ag bT) λbU bV bW w bX m bY a f=>have bq:=od1 bX bq;Ap f bR (Ab f Z λa f=>Ap f bR (Bd bP λbZ b0 bP=>A9 f Z call49 (Ow.lendCall (RI.mono _) 0 bY m Z (λb1 b2 m b3=>(Ow.lendCall (RI.mono _) 0 (od1 b2 bq) m Z (λb4 b5 m b6=>Wk.i0 m (rd1 b5 b3) b6 b0) (λ_ _ _ _ h=>h))) (λ_ _ _ _ h=>h)) λb7 b8 b9 w ca m cb a f=> ?_))))
         obtain⟨rfl,rfl⟩:=cb
         refine Ap f bR (l_o f (Bj (f.e Z)) λa f=>l_o f (AI (f.e Z) bR (f.e Z)) λa f=> ?_)
         obtain rfl:=sj bP
         exact have m:=m.fr 4;have m:=m.fr 4;have m:=m.fr 4;have m:Mem W b8 w (bn::bd::ib aj 29 [aa]::ib ak 32 [ab,ac]::bV::H):=m.fr 4;have m:=m.eraseAt 4;⟨_,(gt bX ca),m,f.k Z⟩
       ·rintro a w ⟨bQ,cc,m,f⟩
        refine have bq:=od1 cc bq;have bg:=od1 cc bg;have ag:=rd2 cc ag;Aa ?_
        rcases Ag hd with⟨cd,hd⟩|⟨cd,hd⟩
        ·refine Am f Z cd (Ae (Ac f Z λa f=>Aa (Ar (have m:=m.dp 4;?_))))
         obtain rfl:=sj hd
         exact⟨[(.bool false)],f.g Z,f.d,_,[],(gt ao (gt ar (gt aw (gt az (gt aI (gt a6 (gt a8 (gt bf (gt bi (gt bp (gt bs (gt bC (gt bM cc))))))))))))),m,Z,Z⟩
        ·refine Ak f Z cd (An (Ah (Ae (AQ underlying29 Z sizeOf27 f Z λa f=>Ao 2 0 m AW f Z Z Z Z λa f=>AN underlying27 f Z Z ag λa f=>Ab f Z λa f=>Aa (Bd hd λce cf hd=> ?_)))))
         refine AL (λa w=>∃q_483':Unit,ce= .inl q_483'∧∃(cg:GH),GLe bQ cg∧Fr a 100 []∧Mem W cg w (H)) ?_ ?_
         ·refine Al (have m:=m.fr 1;have m:=m.eraseAt 3;have m:=m.eraseAt 2;AM (λch a w=>∃ci:Int,ci=ch∧∃(cj:GH),GLe bQ cj∧Fr a 100 [(8,bc),(9,bm),(76,(iv (ad.length:Int))),(77,iv ci)]∧Mem W cj w (bd::bn::H)) cf ⟨_,Z,_,gr,f.k Z,m⟩ ?_)
          clear cf f m
          rintro ch ck cl cm a w ⟨ci,rfl,cj,cn,f,m⟩
          refine have bg:=od1 cn bg;have bq:=od1 cn bq;Ae (Ai f Z Z AP λa f=>Aa (Ah ?_))
          rcases Ag cl with⟨co,cl⟩|⟨co,cl⟩
          ·refine Am f Z co (An (Ah (Al (Ae (Ab f Z λa f=>Ac f Z λa f=>AF (Ac f Z λa f=>Aa (Ah (Ae (Ab f Z λa f=>BH 1 m bq Z underlying65 f Z Z λa f=>Ab f Z λa f=>Aa (Bd cl λcp cq cl=> ?_))))))))))
           refine AL (λa w=>∃cr:Int,cr=cp∧∃(ct:GH),GLe cj ct∧Fr a 100 [(8,bc),(9,bm),(11,(.int .u32 cr)),(76,(iv (ad.length:Int))),(77,iv ci)]∧Mem W ct w (bd::bn::H)) ?_ ?_
           ·refine Al (AM (λcu a w=>∃cv:Int,∃cw:Int,(cv,cw)=cu∧∃(cx:GH),GLe cj cx∧Fr a 100 [(8,bc),(9,bm),(10,iv ci),(11,(.int .u32 cv)),(76,(iv (ad.length:Int))),(77,iv ci),(80,bm),(81,(iv (bk.length:Int))),(82,iv cw)]∧Mem W cx w (bd::bn::H)) cq ⟨_,_,Z,_,gr,f.k Z,m⟩ ?_)
            clear cq f m
            rintro cu cy cz cA a w ⟨cv,cw,rfl,cx,cB,f,m⟩
            refine have bq:=od1 cB bq;Ae (Ai f Z Z AP λa f=>Aa (Ah ?_))
            rcases Ag cz with⟨cC,cz⟩|⟨cC,cz⟩
            ·refine Am f Z cC (An (Ah (Al (Ae (Ab f Z λa f=>Bd cz λcD cE cz=>Bm 1 m bq Z T65 f Z Z Z cE λcF a cG f=>Bl 1 m bq Z CU f Z Z cG cE λcH a cI f=> ?_)))))
             subst cI
             refine Ac f Z λa f=>Ac f Z λa f=>AF (Ab f Z λa f=>Ab f Z λa f=>Bd cz λcJ cK cz=>A2 f Z call90 (Wk.g m cK) λcL w cM m a f=>Aa ?_)
             rcases Ag cz with⟨cN,cz⟩|⟨cN,cz⟩
             ·refine Am f Z cN (Aj (Ab f Z λa f=>Ab f Z λa f=>Bd cz λcO cP cz=>A2 f Z call91 (Wk.a m cP) λcQ w cR m a f=>Ai f Z Z EK λa f=>Ac f Z λa f=>Aa (Aj (Ai f Z Z AB λa f=>Ab f Z λa f=>Aa ?_))))
              obtain rfl:=sj cz
              exact⟨_,Z,_,_,Z,_,(gt cB (gt cM cR)),f.k Z,m⟩
             ·refine Ak f Z cN (An (Aj (Ai f Z Z AB λa f=>Ab f Z λa f=>Aa ?_)))
              obtain rfl:=sj cz
              exact⟨_,Z,_,_,Z,_,(gt cB cM),f.k Z,m⟩
            ·refine Ak f Z cC (AE Z ?_)
             obtain rfl:=sj cz
             obtain rfl:=cA _ rfl
             exact⟨_,Z,_,cB,f.k Z,m⟩
           ·rintro a w ⟨cr,rfl,ct,cS,f,m⟩
            refine have bg:=od1 cS bg;Ae (Ab f Z λa f=>Ab f Z λa f=>Bd cl λcT cU cl=>A9 f Z call88 (Ow.lendCall (RI.mono _) 0 bg m Z (λcV cW m cX=>Wk.p0 hW m cX cU) (λ_ _ _ _ h=>h)) λcY cZ c0 w c1 m c2 a f=> ?_)
            obtain⟨rfl,rfl⟩:=c2
            refine l_o f (Bj (f.e Z)) λa f=>Aa ?_
            rcases Ag cl with⟨c3,cl⟩|⟨c3,cl⟩
            ·refine Am f Z c3 (Ae (Ac f Z λa f=>Aa (Ar (have m:=m.dp 2;?_))))
             obtain rfl:=sj cl
             obtain rfl:=cm _ rfl
             obtain rfl:=sj hd
             exact⟨[(.bool false)],f.g Z,f.d,_,[],(gt ao (gt ar (gt aw (gt az (gt aI (gt a6 (gt a8 (gt bf (gt bi (gt bp (gt bs (gt bC (gt bM (gt cc (gt cn (gt cS c1)))))))))))))))),m,Z,Z⟩
            ·refine Ak f Z c3 (An (Aj (Ai f Z Z AB λa f=>Ab f Z λa f=>Aa ?_)))
             obtain rfl:=sj cl
             exact⟨_,Z,_,Z,_,(gt cn (gt cS c1)),f.k Z,m⟩
          ·refine Ak f Z co (AE Z (have m:=m.dp 2;?_))
           obtain rfl:=sj cl
           obtain rfl:=cm _ rfl
           exact⟨_,Z,_,cn,f.weak trivial,m⟩
         ·rintro a w ⟨_,rfl,cg,c4,f,m⟩
          refine Ae (Ac f Z λa f=>Aa (Ar ?_))
          obtain rfl:=sj hd
          exact⟨[(.bool true)],f.g Z,f.d,_,[],(gt ao (gt ar (gt aw (gt az (gt aI (gt a6 (gt a8 (gt bf (gt bi (gt bp (gt bs (gt bC (gt bM (gt cc c4)))))))))))))),m,Z,Z⟩
theorem Wk.c1 {v0:Value}{x0:LI}(m:Mem W G w (H))(h0:R1 G v0 x0){y:Bool}(hd:D.c1 x0=some y):
  Calls prog 31 #[v0] w (Res W G H (λ_ Ho v=>Ho=[]∧v=(.bool y))):=by
 refine Au (args:=[v0]) (N:=6) [.tmp 2] func31 Z Z (lb Z) Z λa f=> ?_
 unfold D.c1 at hd
 refine Ae (Ac f Z λa f=>AF (Ab f Z λa f=>AN underlying35 f Z Z h0 λa f=>Ai f Z Z CK λa f=>Ac f Z λa f=>Aa (Ar ?_)))
 obtain rfl:=sj hd
 exact⟨[(.bool (decide ((8:Int)<(x0.length:Int))))],f.g Z,f.d,_,[],gr,m,Z,Z⟩
theorem Wk.n {b0:Nat}{aa:Value}{ab:Itm}{ac:Value}{ad:Itm}{ae:Value}{af:Itm}{ag:Value}{ah:Itm}{ai aj:Value}{ak al:LI}{am an:LL}{ao ap:LI}(m:Mem W G w (ib b0 70 [aa,ac,ae,ag,ai,aj]::ab::ad::af::ah::H))(aq:Ow R0 2 G ab aa ak)(ar:Ow R0 2 G ad ac al)(au:Ow R1 35 G af ae am)(av:Ow R1 35 G ah ag an)(aw:RSl (RI .u32) G ai ao)(ax:RSl (RI .u32) G aj ap){y:Int×(LI)×(LI)×(LL)×(LL)}(hd:D.n ak al am an ao ap=some y):
  Calls prog 96 #[pb b0] w (Res W G H (λG' Ho v=>∃r0:Value,∃i0:Itm,∃r2:Value,∃i2:Itm,∃r4:Value,∃i4:Itm,∃r6:Value,∃i6:Itm,Ho=[ib b0 70 [r0,r2,r4,r6,ai,aj],i0,i2,i4,i6]∧v=(iv y.1)∧Ow R0 2 G' i0 r0 y.2.1∧Ow R0 2 G' i2 r2 y.2.2.1∧Ow R1 35 G' i4 r4 y.2.2.2.1∧Ow R1 35 G' i6 r6 y.2.2.2.2)):=by
 refine Au (args:=[pb b0]) (N:=10) [.tmp 2] func96 Z Z (lb Z) Z λa f=> ?_
 unfold D.n at hd
 refine Ae (Ac f Z λa f=>AF (Ab f Z λa f=>l_o f (Bu (f.e Z)) λa f=>AQ underlying70 Z sizeOf38 f Z λa f=>AQ underlying38 Z sizeOf35 f Z λa f=>Ao 0 0 m AY f Z Z Z Z λa f=>BH 1 m aq Z underlying35 f Z Z λa f=>Ai f Z Z CA λa f=>Ac f Z λa f=>Aa (Ar ?_)))
 obtain rfl:=sj hd
 exact⟨[(iv (i64.wrap ((ak.length:Int)-1)))],f.g Z,f.d,_,[ib b0 70 [aa,ac,ae,ag,ai,aj],ab,ad,af,ah],gr,m,_,_,_,_,_,_,_,_,Z,Z,aq,ar,au,av⟩
theorem Wk.r0 {v0:Value}{x0:LI}(m:Mem W G w (H))(h0:R1 G v0 x0){y:(LI)}(hd:D.r0 x0=some y):
  Calls prog 127 #[v0] w (Res W G H (λG' Ho v=>∃r0:Value,∃i0:Itm,Ho=[i0]∧r0=v∧Ow R0 2 G' i0 r0 y)):=by
 refine Au (args:=[v0]) (N:=21) [.tmp 2] func127 Z Z (lb Z) Z λa f=> ?_
 unfold D.r0 at hd
 refine Ae (Ac f Z λa f=>AF (Ab f Z λa f=>AN underlying82 f Z Z h0 λa f=>Bd hd λaa ab hd=>Cy (R:=R0) m T35 Z (by decide) Z f Z Z Z ab λac ad w a m ae f=>Ac f Z λa f=>Aa (Ah (Ae (Ab f Z λa f=>AN underlying82 f Z Z h0 λa f=>Ab f Z λa f=>Aa (Bd hd λaf ag hd=> ?_))))))
 refine AL (λa w=>∃ah:LI,ah=af∧∃(ai:GH) (aj:Value) (ak:Itm),GLe G ai∧Fr a 21 [(3,aj)]∧Mem W ai w (ak::H)∧Ow R0 2 ai ak aj ah) ?_ ?_
 ·refine Al (AM (λal a w=>∃am:LI,∃an:Int,(am,an)=al∧∃(ao:GH) (ap:Value) (aq:Itm),GLe G ao∧Fr a 21 [(3,ap),(9,v0),(10,(iv (x0.length:Int))),(11,iv an)]∧Mem W ao w (aq::H)∧Ow R0 2 ao aq ap am) ag ⟨_,_,Z,_,ad,ac,gr,f.k Z,m,ae⟩ ?_)
  clear ag f m
  rintro al ar au av a w ⟨am,an,rfl,ao,ap,aq,aw,f,m,ax⟩
  refine have h0:=rd1 aw h0;Ae (Ai f Z Z AP λa f=>Aa (Ah ?_))
  rcases Ag au with⟨ay,au⟩|⟨ay,au⟩
  ·refine Am f Z ay (An (Ah (Al (Ae (Bd au λaz aA au=>AX T82 f Z Z Z h0 aA λaB aC a aD aE f=> ?_)))))
   subst aE
   refine Aw m Pl3 f Z Z aD λa f=>Ac f Z λa f=>Aa (Aj (Ab f Z λa f=>Ab f Z λa f=>AO (R:=R0) (xs:=([az]:LI)) (RI.one _) m T35 f Z Z Z (by decide) (All2.cons Z (All2.nil _)) λaF aG w a m aH f=>Bd au λaI aJ au=>A6 (RI.one _) 1 m ax Z T35 Z (by decide) f Z Z Z (Ow.src (j:=0) aH m Z) aJ λaK aL w a m aM f=>Ac f Z λa f=>Aa (Aj (Ai f Z Z AB λa f=>Ab f Z λa f=>Aa (have m:=m.fr 1;have m:=m.eraseAt 1;?_)))))
   obtain rfl:=sj au
   exact⟨_,Z,_,_,Z,_,aL,aK,aw,f.k Z,m,aM⟩
  ·refine Ak f Z ay (AE Z ?_)
   obtain rfl:=sj au
   obtain rfl:=av _ rfl
   exact⟨_,Z,_,ap,aq,aw,f.k Z,m,ax⟩
 ·rintro a w ⟨ah,rfl,ai,aj,ak,aN,f,m,aO⟩
  refine Ae (Ab f Z λa f=>Ac f Z λa f=>Aa (Ar ?_))
  obtain rfl:=sj hd
  exact⟨[aj],f.g Z,f.d,_,[ak],aN,m,_,_,Z,Z,aO⟩
theorem Wk.n1 {x0:Int}(hW:DM W)(m:Mem W G w (H)){y:(LI)}(hd:D.n1 x0=some y):
  Calls prog 126 #[(.int .u32 x0)] w (Res W G H (λG' Ho v=>∃r0:Value,∃i0:Itm,Ho=[i0]∧r0=v∧Ow R0 2 G' i0 r0 y)):=by
 refine Au (args:=[(.int .u32 x0)]) (N:=6) [.tmp 2] func126 Z Z (lb Z) Z λa f=> ?_
 unfold D.n1 at hd
 refine Ae (Ac f Z λa f=>AF (Ab f Z λa f=>Bd hd λaa ab hd=>BK f Z call69 (Wk.o hW m ab) λac ad ae w af m ag a f=>Bd hd λah ai hd=>BK f Z call127 (Ow.lendCall (RI.mono _) 0 ag m Z (λaj ak m al=>Wk.r0 m al ai) (λ_ G' _ _ ⟨a0,a1,e1,e2,o0⟩=>⟨a0,a1,e1,e2,Ow.free (RI.free _) G' o0⟩)) λam an ao w ap m aq a f=>Ac f Z λa f=>Aa (Ar (have m:=m.eraseAt 1;?_))))
 obtain rfl:=sj hd
 exact⟨[am],f.g Z,f.d,_,[an],(gt af ap),m,_,_,Z,Z,aq⟩
theorem Wk.s {b0:Nat}{aa:Value}{ab:Itm}{ac:Value}{ad:Itm}{ae:Value}{af:Itm}{ag:Value}{ah:Itm}{ai aj v4:Value}{ak al:LI}{am an:LL}{ao ap:LI}{x1 x2 x3:Int}{x4:LI}(hW:DM W)(m:Mem W G w (ib b0 70 [aa,ac,ae,ag,ai,aj]::ab::ad::af::ah::H))(aq:Ow R0 2 G ab aa ak)(ar:Ow R0 2 G ad ac al)(au:Ow R1 35 G af ae am)(av:Ow R1 35 G ah ag an)(aw:RSl (RI .u32) G ai ao)(ax:RSl (RI .u32) G aj ap)(h4:R1 G v4 x4){y:(LI)×(LI)×(LL)×(LL)}(hd:D.s ak al am an ao ap x1 x2 x3 x4=some y):
  Calls prog 95 #[pb b0,iv x1,iv x2,(.int .u32 x3),v4] w (Res W G H (λG' Ho _=>∃r0:Value,∃i0:Itm,∃r2:Value,∃i2:Itm,∃r4:Value,∃i4:Itm,∃r6:Value,∃i6:Itm,Ho=[ib b0 70 [r0,r2,r4,r6,ai,aj],i0,i2,i4,i6]∧Ow R0 2 G' i0 r0 y.1∧Ow R0 2 G' i2 r2 y.2.1∧Ow R1 35 G' i4 r4 y.2.2.1∧Ow R1 35 G' i6 r6 y.2.2.2)):=by
 refine Au (args:=[pb b0,iv x1,iv x2,(.int .u32 x3),v4]) (N:=60) [] func95 Z Z (lb Z) Z λa f=> ?_
 unfold D.s at hd
 refine Ae (Ab f Z λa f=>Ab f Z λa f=>l_o f (Bu (f.e Z)) λa f=>AQ underlying70 Z sizeOf38 f Z λa f=>AQ underlying38 Z sizeOf35 f Z λa f=>Ao 0 0 m AY f Z Z Z Z λa f=>Ab f Z λa f=>AO (R:=R0) (xs:=([x1]:LI)) (RI.one _) m T35 f Z Z Z (by decide) (All2.cons Z (All2.nil _)) λay az w a m aA f=>Bd hd λaB aC hd=>A6 (RI.one _) 2 m aq Z T35 Z (by decide) f Z Z Z (Ow.src (j:=0) aA m Z) aC λaD aE w a m aF f=>l_o f (Bu (f.e Z)) λa f=>AQ underlying70 Z sizeOf38 f Z λa f=>AQ underlying38 Z sizeOf35 f Z λa f=>Ax 1 0 (ds:=[aE]) m sizeOf35 f Z Z (Ow.cells 2 m aF Z) (Af (Ow.one1 2 m aF Z) AG) Z (lb Z) Z λw m=>AF (Ab f Z λa f=>Ab f Z λa f=>l_o f (Bu (f.e Z)) λa f=>AQ underlying70 Z sizeOf38 f Z λa f=>AQ underlying38 Z sizeOf35 f Z λa f=>Ao 1 1 m AY f Z Z Z Z λa f=>Ab f Z λa f=> ?_))
 refine AO (R:=R0) (xs:=([x2]:LI)) (RI.one _) m T35 f Z Z Z (by decide) (All2.cons Z (All2.nil _)) λaG aH w a m aI f=>Bd hd λaJ aK hd=>A6 (RI.one _) 4 m ar Z T35 Z (by decide) f Z Z Z (Ow.src (j:=0) aI m Z) aK λaL aM w a m aN f=>l_o f (Bu (f.e Z)) λa f=>AQ underlying70 Z sizeOf38 f Z λa f=>AQ underlying38 Z sizeOf35 f Z λa f=>Ax 2 1 (ds:=[aM]) m sizeOf35 f Z Z (Ow.cells 4 m aN Z) (Af (Ow.one1 4 m aN Z) AG) Z (lb Z) Z λw m=>Aa (Ah (k_draw0 AV m (p_p 0 Z f (λ_=>r_move (f.e Z)) λa f=>k_draw1 1009 8 (by kernel_rfl) Z (As 1 1009 Z f Z λa f=>q_p 2 1009 Z f (λ_=>Bu (f.e Z)) λa f=>Br 3 1009 underlying70 Z sizeOf38 Z f Z λa f=>Br 4 1009 underlying38 Z sizeOf27 Z f Z λa f=>Bo 5 1009 2 AW Z Z Z f Z λa f=>As 6 1009 Z f Z λa f=>Bw 7 Z λaO w aP m aQ aQ=>have h4:=rd1 aP h4;have aF:=od1 aP aF;have aN:=od1 aP aN;?_))))
 refine have au:=od3 aP au;have av:=od3 aP av;Bd hd λaR aS hd=>BK f Z call126 (Wk.n1 hW m aS) λaT aU aV w aW m aX a f=>have h4:=rd1 aW h4;have aF:=od1 aW aF;have aN:=od1 aW aN;have au:=od3 aW au;have av:=od3 aW av;Aa (aQ aV [aU] _ _ aW m (Bw 8 Z λaY w aZ m a0 a0=>have h4:=rd1 aZ h4;have aX:=od1 aZ aX;have aF:=od1 aZ aF;have aN:=od1 aZ aN;have au:=od3 aZ au;have av:=od3 aZ av;?_))
 obtain⟨a1,a2,m,a3⟩:=Ow.stamp (RI.mono _) aX m
 refine have h4:=rd1 a2 h4;have aF:=od1 a2 aF;have aN:=od1 a2 aN;have au:=od3 a2 au;have av:=od3 a2 av;AO (R:=R1) (xs:=([aR]:LL)) (RSl.one _) m T27 f Z Z Z (by decide) (All2.cons a3 (All2.nil _)) λa4 a5 w a m a6 f=>Aa (a0 a1 [a4] _ _ a2 m (A4 λa7 w a8 m=>have h4:=rd1 a8 h4;have a6:=od3 a8 a6;have aF:=od1 a8 aF;have aN:=od1 a8 aN;have au:=od3 a8 au;have av:=od3 a8 av;Bd hd λa9 ba hd=>A6 (RSl.one _) 6 m au Z T27 Z (by decide) f Z Z Z (Ow.src (j:=0) a6 m Z) ba λbb bc w a m bd f=>l_o f (Bu (f.e Z)) λa f=>AQ underlying70 Z sizeOf38 f Z λa f=>AQ underlying38 Z sizeOf27 f Z λa f=>Ax 3 2 (ds:=[bc]) m sizeOf27 f Z Z (Ow.cells 6 m bd Z) (Af (Ow.one1 6 m bd Z) AG) Z (lb Z) Z λw m=>Aa (k_draw0 AV m (p_p 0 Z f (λ_=>r_move (f.e Z)) λa f=>k_draw1 1009 8 (by kernel_rfl) Z (As 1 1009 Z f Z λa f=>q_p 2 1009 Z f (λ_=>Bu (f.e Z)) λa f=> ?_)))))
 refine Br 3 1009 underlying70 Z sizeOf38 Z f Z λa f=>Br 4 1009 underlying38 Z sizeOf27 Z f Z λa f=>Bo 5 1009 3 AW Z Z Z f Z λa f=>As 6 1009 Z f Z λa f=>Bw 7 Z λbe w bf m bg bg=>have h4:=rd1 bf h4;have aF:=od1 bf aF;have aN:=od1 bf aN;have bd:=od3 bf bd;have av:=od3 bf av;Bd hd λbh bi hd=>BK f Z call127 (Wk.r0 m h4 bi) λbj bk bl w bm m bn a f=>have aF:=od1 bm aF;have aN:=od1 bm aN;have bd:=od3 bm bd;have av:=od3 bm av;Aa (bg bl [bk] _ _ bm m (Bw 8 Z λbo w bp m bq bq=>have bn:=od1 bp bn;have aF:=od1 bp aF;have aN:=od1 bp aN;have bd:=od3 bp bd;have av:=od3 bp av;?_))
 obtain⟨br,bs,m,bt⟩:=Ow.stamp (RI.mono _) bn m
 refine have aF:=od1 bs aF;have aN:=od1 bs aN;have bd:=od3 bs bd;have av:=od3 bs av;AO (R:=R1) (xs:=([bh]:LL)) (RSl.one _) m T27 f Z Z Z (by decide) (All2.cons bt (All2.nil _)) λbu bv w a m bw f=>Aa (bq br [bu] _ _ bs m (A4 λbx w bz m=>have bw:=od3 bz bw;have aF:=od1 bz aF;have aN:=od1 bz aN;have bd:=od3 bz bd;have av:=od3 bz av;Bd hd λbA bB hd=>A6 (RSl.one _) 8 m av Z T27 Z (by decide) f Z Z Z (Ow.src (j:=0) bw m Z) bB λbC bD w a m bE f=>l_o f (Bu (f.e Z)) λa f=>AQ underlying70 Z sizeOf38 f Z λa f=>AQ underlying38 Z sizeOf27 f Z λa f=>Ax 4 3 (ds:=[bD]) m sizeOf27 f Z Z (Ow.cells 8 m bE Z) (Af (Ow.one1 8 m bE Z) AG) Z (lb Z) Z λw m=>Aa (have m:=m.fr 8;have m:=m.fr 8;have m:=m.fr 8;have m:Mem W bx w (aD::aL::bb::bC::bu::a4::aG::ay::ib b0 70 [aE,aM,bc,bD,ai,aj]::H):=m.fr 8;have m:=m.fr 8;have m:=m.eraseAt 8;?_)))
 refine have m:=m.eraseAt 7;have m:Mem W bx w (ib b0 70 [aE,aM,bc,bD,ai,aj]::aD::aL::bb::bC::bu::H):=m.eraseAt 6;have m:=m.eraseAt 5;?_
 obtain rfl:=sj hd
 exact⟨[],trivial,f.d,_,[ib b0 70 [aE,aM,bc,bD,ai,aj],aD,aL,bb,bC],(gt aP (gt aW (gt aZ (gt a2 (gt a8 (gt bf (gt bm (gt bp (gt bs bz))))))))),m,_,_,_,_,_,_,_,_,Z,aF,aN,bd,bE⟩
theorem Wk.e0 {b0:Nat}{aa:Value}{ab:Itm}{ac:Value}{ad:Itm}{ae:Value}{af:Itm}{ag:Value}{ah:Itm}{ai aj:Value}{ak al:LI}{am an:LL}{ao ap:LI}{x1 x2:Int}(hW:DM W)(m:Mem W G w (ib b0 70 [aa,ac,ae,ag,ai,aj]::ab::ad::af::ah::H))(aq:Ow R0 2 G ab aa ak)(ar:Ow R0 2 G ad ac al)(au:Ow R1 35 G af ae am)(av:Ow R1 35 G ah ag an)(aw:RSl (RI .u32) G ai ao)(ax:RSl (RI .u32) G aj ap){y:(LI)×(LI)×(LL)×(LL)}(hd:D.e0 ak al am an ao ap x1 x2=some y):
  Calls prog 35 #[pb b0,(.int .u32 x1),(.int .u32 x2)] w (Res W G H (λG' Ho _=>∃r0:Value,∃i0:Itm,∃r2:Value,∃i2:Itm,∃r4:Value,∃i4:Itm,∃r6:Value,∃i6:Itm,Ho=[ib b0 70 [r0,r2,r4,r6,ai,aj],i0,i2,i4,i6]∧Ow R0 2 G' i0 r0 y.1∧Ow R0 2 G' i2 r2 y.2.1∧Ow R1 35 G' i4 r4 y.2.2.1∧Ow R1 35 G' i6 r6 y.2.2.2)):=by
 refine Au (args:=[pb b0,(.int .u32 x1),(.int .u32 x2)]) (N:=52) [] func35 Z Z (lb Z) Z λa f=> ?_
 unfold D.e0 at hd
 refine Ah (Ae (Ab f Z λa f=>Ab f Z λa f=>Ai f Z Z Dw λa f=>Bd hd λay az hd=>BK f Z call69 (Wk.o hW m az) λaA aB aC w aD m aE a f=>have aw:=rd1 aD aw;have ax:=rd1 aD ax;have aq:=od1 aD aq;have ar:=od1 aD ar;have au:=od3 aD au;have av:=od3 aD av;BH 0 m aE Z underlying82 f Z Z λa f=>Ab f Z λa f=>Aa (Bd hd λaF aG hd=> ?_)))
 refine AL (λa w=>∃aH:Int,∃aI:LI,∃aJ:LI,∃aK:LL,∃aL:LL,(aH,aI,aJ,aK,aL)=aF∧∃(aM:GH) (aN:Value) (aO:Itm) (aP:Value) (aQ:Itm) (aR:Value) (aS:Itm) (aT:Value) (aU:Itm),GLe aC aM∧Fr a 52 [(0,pb b0),(1,(.int .u32 aH)),(2,(.int .u32 x2))]∧Mem W aM w (ib b0 70 [aN,aP,aR,aT,ai,aj]::aO::aQ::aS::aU::H)∧Ow R0 2 aM aO aN aI∧Ow R0 2 aM aQ aP aJ∧Ow R1 35 aM aS aR aK∧Ow R1 35 aM aU aT aL) ?_ ?_
 ·refine Al (have m:=m.fr 1;AM (λaV a w=>∃aW:Int,∃aX:Int,∃aY:LI,∃aZ:LI,∃a0:LL,∃a1:LL,(aW,aX,aY,aZ,a0,a1)=aV∧∃(a2:GH) (a3:Value) (a4:Itm) (a5:Value) (a6:Itm) (a7:Value) (a8:Itm) (a9:Value) (ba:Itm),GLe aC a2∧Fr a 52 [(0,pb b0),(1,(.int .u32 aW)),(2,(.int .u32 x2)),(13,aA),(14,(iv (ay.length:Int))),(15,iv aX)]∧Mem W a2 w (ib b0 70 [a3,a5,a7,a9,ai,aj]::aB::a4::a6::a8::ba::H)∧Ow R0 2 a2 a4 a3 aY∧Ow R0 2 a2 a6 a5 aZ∧Ow R1 35 a2 a8 a7 a0∧Ow R1 35 a2 ba a9 a1) aG ⟨_,_,_,_,_,_,Z,_,aa,ab,ac,ad,ae,af,ag,ah,gr,f.k Z,m,aq,ar,au,av⟩ ?_)
  clear aG f m
  rintro aV bb bc bd a w ⟨aW,aX,aY,aZ,a0,a1,rfl,a2,a3,a4,a5,a6,a7,a8,a9,ba,be,f,m,bf,bg,bh,bi⟩
  refine have aw:=rd1 be aw;have ax:=rd1 be ax;have aE:=od1 be aE;Ae (Ai f Z Z AP λa f=>Aa (Ah ?_))
  rcases Ag bc with⟨bj,bc⟩|⟨bj,bc⟩
  ·refine Am f Z bj (An (Ah (Al (Ae (Bd bc λbk bl bc=>Bm 1 m aE Z T82 f Z Z Z bl λbm a bn f=>Bl 1 m aE Z Pl3 f Z Z bn bl λbo a bp f=> ?_)))))
   subst bp
   refine Ac f Z λa f=>AF (Ab f Z λa f=>Ab f Z λa f=>Bd bc λbq br bc=>A2 f Z call91 (Wk.a m br) λbs w bt m a f=>have aw:=rd1 bt aw;have ax:=rd1 bt ax;have bf:=od1 bt bf;have bg:=od1 bt bg;have bh:=od3 bt bh;have bi:=od3 bt bi;Ai f Z Z Dw λa f=>Ac f Z λa f=>Aa (Aj (Ab f Z λa f=>Ab f Z λa f=>Ab f Z λa f=>Ab f Z λa f=>have m:=m.fr 5;have m:=m.fr 5;have m:=m.fr 5;have m:Mem W bs w (a4::a6::a8::ba::ib b0 70 [a3,a5,a7,a9,ai,aj]::aB::H):=m.fr 5;have m:=m.fr 4;Bd bc λbu bv bc=>A9 f Z call96 (Wk.n m bf bg bh bi aw ax bv) λbw bx bz w bA m bB a f=> ?_)))
   obtain⟨bC,bD,bE,bF,bG,bH,bI,bJ,rfl,rfl,bK,bL,bM,bN⟩:=bB
   refine have aw:=rd1 bA aw;have ax:=rd1 bA ax;AO (R:=R0) (xs:=([bu.1]:LI)) (RI.one _) m T82 f Z Z Z (by decide) (All2.cons Z (All2.nil _)) λbO bP w a m bQ f=> ?_
   obtain⟨bR,bS,m,bT⟩:=Ow.stamp (RI.mono _) bQ m
   refine have aw:=rd1 bS aw;have ax:=rd1 bS ax;have bK:=od1 bS bK;have bL:=od1 bS bL;have bM:=od3 bS bM;have bN:=od3 bS bN;Bd bc λbU bV bc=>A9 f Z call95 (Wk.s hW m bK bL bM bN aw ax bT bV) λbW bX bY w bZ m b1 a f=> ?_
   obtain⟨b2,b3,b4,b5,b6,b7,b8,b9,rfl,ca,cb,cc,cd⟩:=b1
   refine Aa (Aj (Ai f Z Z AB λa f=>Ab f Z λa f=>Aa (have m:=m.fr 5;have m:=m.fr 1;?_)))
   obtain rfl:=sj bc
   exact⟨_,Z,_,_,_,_,_,_,Z,_,b2,b3,b4,b5,b6,b7,b8,b9,(gt be (gt bt (gt bA (gt bS bZ)))),f.k Z,m,ca,cb,cc,cd⟩
  ·refine Ak f Z bj (AE Z (have m:=m.fr 5;have m:=m.fr 5;have m:=m.fr 5;have m:Mem W a2 w (a4::a6::a8::ba::ib b0 70 [a3,a5,a7,a9,ai,aj]::aB::H):=m.fr 5;have m:=m.fr 4;have m:=m.eraseAt 5;?_))
   obtain rfl:=sj bc
   obtain rfl:=bd _ rfl
   exact⟨_,_,_,_,_,Z,_,a3,a4,a5,a6,a7,a8,a9,ba,be,f.k Z,m,bf,bg,bh,bi⟩
 ·rintro a w ⟨aH,aI,aJ,aK,aL,rfl,aM,aN,aO,aP,aQ,aR,aS,aT,aU,ce,f,m,cf,cg,ch,ci⟩
  refine have aw:=rd1 ce aw;have ax:=rd1 ce ax;Ae (Ab f Z λa f=>Ab f Z λa f=>Ai f Z Z Dw λa f=>Bd hd λcj ck hd=>BK f Z call69 (Wk.o hW m ck) λcl cm cn w co m cp a f=>have aw:=rd1 co aw;have ax:=rd1 co ax;have cf:=od1 co cf;have cg:=od1 co cg;have ch:=od3 co ch;have ci:=od3 co ci;BH 0 m cp Z underlying82 f Z Z λa f=>Ab f Z λa f=>Aa (Bd hd λcq cr hd=> ?_))
  refine AL (λa w=>∃cs:LI,∃ct:LI,∃cu:LL,∃cv:LL,(cs,ct,cu,cv)=cq∧∃(cw:GH) (cx:Value) (cy:Itm) (cz:Value) (cA:Itm) (cB:Value) (cC:Itm) (cD:Value) (cE:Itm),GLe cn cw∧Fr a 52 []∧Mem W cw w (ib b0 70 [cx,cz,cB,cD,ai,aj]::cy::cA::cC::cE::H)∧Ow R0 2 cw cy cx cs∧Ow R0 2 cw cA cz ct∧Ow R1 35 cw cC cB cu∧Ow R1 35 cw cE cD cv) ?_ ?_
  ·refine Al (have m:=m.fr 1;AM (λcF a w=>∃cG:Int,∃cH:Int,∃cI:LI,∃cJ:LI,∃cK:LL,∃cL:LL,(cG,cH,cI,cJ,cK,cL)=cF∧∃(cM:GH) (cN:Value) (cO:Itm) (cP:Value) (cQ:Itm) (cR:Value) (cS:Itm) (cT:Value) (cU:Itm),GLe cn cM∧Fr a 52 [(0,pb b0),(1,(.int .u32 cG)),(34,cl),(35,(iv (cj.length:Int))),(36,iv cH)]∧Mem W cM w (ib b0 70 [cN,cP,cR,cT,ai,aj]::cm::cO::cQ::cS::cU::H)∧Ow R0 2 cM cO cN cI∧Ow R0 2 cM cQ cP cJ∧Ow R1 35 cM cS cR cK∧Ow R1 35 cM cU cT cL) cr ⟨_,_,_,_,_,_,Z,_,aN,aO,aP,aQ,aR,aS,aT,aU,gr,f.k Z,m,cf,cg,ch,ci⟩ ?_)
   clear cr f m
   rintro cF cV cW cX a w ⟨cG,cH,cI,cJ,cK,cL,rfl,cM,cN,cO,cP,cQ,cR,cS,cT,cU,cY,f,m,cZ,c0,c1,c2⟩
   refine have aw:=rd1 cY aw;have ax:=rd1 cY ax;have cp:=od1 cY cp;Ae (Ai f Z Z AP λa f=>Aa (Ah ?_))
   rcases Ag cW with⟨c3,cW⟩|⟨c3,cW⟩
   ·refine Am f Z c3 (An (Ah (Al (Ae (Bd cW λc4 c5 cW=>Bm 1 m cp Z T82 f Z Z Z c5 λc6 a c7 f=>Bl 1 m cp Z Pl3 f Z Z c7 c5 λc8 a c9 f=> ?_)))))
    subst c9
    refine Ac f Z λa f=>AF (Ab f Z λa f=>Ab f Z λa f=>Bd cW λda db cW=>A2 f Z call91 (Wk.a m db) λdc w dd m a f=>have aw:=rd1 dd aw;have ax:=rd1 dd ax;have cZ:=od1 dd cZ;have c0:=od1 dd c0;have c1:=od3 dd c1;have c2:=od3 dd c2;Ai f Z Z EK λa f=>Ac f Z λa f=>Aa (Aj (Ab f Z λa f=>Ab f Z λa f=>Ab f Z λa f=>Ab f Z λa f=>have m:=m.fr 5;have m:=m.fr 5;have m:=m.fr 5;have m:Mem W dc w (cO::cQ::cS::cU::ib b0 70 [cN,cP,cR,cT,ai,aj]::cm::H):=m.fr 5;have m:=m.fr 4;Bd cW λde df cW=>A9 f Z call96 (Wk.n m cZ c0 c1 c2 aw ax df) λdg dh di w dj m dk a f=> ?_)))
    obtain⟨dl,dm,dn,dp,dq,dr,ds,dt,rfl,rfl,du,dv,dw,dx⟩:=dk
    refine have aw:=rd1 dj aw;have ax:=rd1 dj ax;AO (R:=R0) (xs:=([de.1]:LI)) (RI.one _) m T82 f Z Z Z (by decide) (All2.cons Z (All2.nil _)) λdy dz w a m dA f=> ?_
    obtain⟨dB,dC,m,dD⟩:=Ow.stamp (RI.mono _) dA m
    refine have aw:=rd1 dC aw;have ax:=rd1 dC ax;have du:=od1 dC du;have dv:=od1 dC dv;have dw:=od3 dC dw;have dx:=od3 dC dx;Bd cW λdE dF cW=>A9 f Z call95 (Wk.s hW m du dv dw dx aw ax dD dF) λdG dH dI w dJ m dK a f=> ?_
    obtain⟨dL,dM,dN,dO,dP,dQ,dR,dS,rfl,dT,dU,dV,dW⟩:=dK
    refine Aa (Aj (Ai f Z Z AB λa f=>Ab f Z λa f=>Aa (have m:=m.fr 5;have m:=m.fr 1;?_)))
    obtain rfl:=sj cW
    exact⟨_,Z,_,_,_,_,_,_,Z,_,dL,dM,dN,dO,dP,dQ,dR,dS,(gt cY (gt dd (gt dj (gt dC dJ)))),f.k Z,m,dT,dU,dV,dW⟩
   ·refine Ak f Z c3 (AE Z (have m:=m.fr 5;have m:=m.fr 5;have m:=m.fr 5;have m:Mem W cM w (cO::cQ::cS::cU::ib b0 70 [cN,cP,cR,cT,ai,aj]::cm::H):=m.fr 5;have m:=m.fr 4;have m:=m.eraseAt 5;?_))
    obtain rfl:=sj cW
    obtain rfl:=cX _ rfl
    exact⟨_,_,_,_,Z,_,cN,cO,cP,cQ,cR,cS,cT,cU,cY,f.weak trivial,m,cZ,c0,c1,c2⟩
  ·rintro a w ⟨cs,ct,cu,cv,rfl,cw,cx,cy,cz,cA,cB,cC,cD,cE,dX,f,m,dY,dZ,d0,d1⟩
   obtain rfl:=sj hd
   exact⟨[],trivial,f.d,_,[ib b0 70 [cx,cz,cB,cD,ai,aj],cy,cA,cC,cE],(gt aD (gt ce (gt co dX))),m,_,_,_,_,_,_,_,_,Z,dY,dZ,d0,d1⟩
theorem Wk.m0 {W:World}(hW:DM W)(n:Nat):∀{w:World} {G:GH} {H:List Itm} {b0:Nat} {aa:Value} {ab:Itm} {ac:Value} {ad:Itm} {ae:Value} {af:Itm} {ag:Value} {ah:Itm} {ai aj:Value} {ak al:LI} {am an:LL} {ao ap:LI} {x1 x2:Int} (m:Mem W G w (ib b0 70 [aa,ac,ae,ag,ai,aj]::ab::ad::af::ah::H)) (aq:Ow R0 2 G ab aa ak) (ar:Ow R0 2 G ad ac al) (au:Ow R1 35 G af ae am) (av:Ow R1 35 G ah ag an) (aw:RSl (RI .u32) G ai ao) (ax:RSl (RI .u32) G aj ap) {y:(LI)×(LI)×(LL)×(LL)} (hd:D.m0 n ak al am an ao ap x1 x2=some y),
  Calls prog 34 #[pb b0,iv x1,iv x2] w (Res W G H (λG' Ho _=>∃r0:Value,∃i0:Itm,∃r2:Value,∃i2:Itm,∃r4:Value,∃i4:Itm,∃r6:Value,∃i6:Itm,Ho=[ib b0 70 [r0,r2,r4,r6,ai,aj],i0,i2,i4,i6]∧Ow R0 2 G' i0 r0 y.1∧Ow R0 2 G' i2 r2 y.2.1∧Ow R1 35 G' i4 r4 y.2.2.1∧Ow R1 35 G' i6 r6 y.2.2.2)):=by
 induction n with
 |zero=>intros;rename_i hd;simp[D.m0] at hd
 |succ fuel ih=>
  intro w G H b0 aa ab ac ad ae af ag ah ai aj ak al am an ao ap x1 x2 m aq ar au av aw ax y hd
  refine Au (args:=[pb b0,iv x1,iv x2]) (N:=76) [] func34 Z Z (lb Z) Z λa f=> ?_
  unfold D.m0 at hd
  refine Ae (Ac f Z λa f=>Aa (Ah (Ae (Ab f Z λa f=>l_o f (Bu (f.e Z)) λa f=>AQ underlying70 Z sizeOf67 f Z λa f=>Ao 0 5 m Pl67 f Z Z Z Z λa f=>Ab f Z λa f=>Bd hd λay az hd=>AX T67 f Z Z Z ax az λaA aB a aC aD f=> ?_))))
  subst aD
  refine Aw m CU f Z Z aC λa f=>Bd hd λaE aF hd=>BK f Z call69 (Wk.o hW m aF) λaG aH aI w aJ m aK a f=>have ax:=rd1 aJ ax;have aw:=rd1 aJ aw;have aq:=od1 aJ aq;have ar:=od1 aJ ar;have au:=od3 aJ au;have av:=od3 aJ av;BH 0 m aK Z underlying82 f Z Z λa f=>Ab f Z λa f=>Aa (Bd hd λaL aM hd=> ?_)
  refine AL (λa w=>∃aN:Int,∃aO:LI,∃aP:LI,∃aQ:LL,∃aR:LL,(aN,aO,aP,aQ,aR)=aL∧∃(aS:GH) (aT:Value) (aU:Itm) (aV:Value) (aW:Itm) (aX:Value) (aY:Itm) (aZ:Value) (a0:Itm),GLe aI aS∧Fr a 76 [(0,pb b0),(1,iv x1),(6,iv aN)]∧Mem W aS w (ib b0 70 [aT,aV,aX,aZ,ai,aj]::aU::aW::aY::a0::H)∧Ow R0 2 aS aU aT aO∧Ow R0 2 aS aW aV aP∧Ow R1 35 aS aY aX aQ∧Ow R1 35 aS a0 aZ aR) ?_ ?_
  ·refine Al (have m:=m.fr 1;AM (λa1 a w=>∃a2:Int,∃a3:Int,∃a4:LI,∃a5:LI,∃a6:LL,∃a7:LL,(a2,a3,a4,a5,a6,a7)=a1∧∃(a8:GH) (a9:Value) (ba:Itm) (bb:Value) (bc:Itm) (bd:Value) (be:Itm) (bf:Value) (bg:Itm),GLe aI a8∧Fr a 76 [(0,pb b0),(1,iv x1),(2,iv x2),(6,iv a2),(16,aG),(17,(iv (aE.length:Int))),(18,iv a3)]∧Mem W a8 w (ib b0 70 [a9,bb,bd,bf,ai,aj]::aH::ba::bc::be::bg::H)∧Ow R0 2 a8 ba a9 a4∧Ow R0 2 a8 bc bb a5∧Ow R1 35 a8 be bd a6∧Ow R1 35 a8 bg bf a7) aM ⟨_,_,_,_,_,_,Z,_,aa,ab,ac,ad,ae,af,ag,ah,gr,f.k Z,m,aq,ar,au,av⟩ ?_)
   clear aM f m
   rintro a1 bh bi bj a w ⟨a2,a3,a4,a5,a6,a7,rfl,a8,a9,ba,bb,bc,bd,be,bf,bg,bk,f,m,bl,bm,bn,bo⟩
   refine have aw:=rd1 bk aw;have ax:=rd1 bk ax;have aK:=od1 bk aK;Ae (Ai f Z Z AP λa f=>Aa (Ah ?_))
   rcases Ag bi with⟨bp,bi⟩|⟨bp,bi⟩
   ·refine Am f Z bp (An (Ah (Al (Ae (Bd bi λbq br bi=>Bm 1 m aK Z T82 f Z Z Z br λbs a bt f=>Bl 1 m aK Z Pl3 f Z Z bt br λbu a bv f=> ?_)))))
    subst bv
    refine Ac f Z λa f=>Aa (Ah (Ae (Ab f Z λa f=>Ab f Z λa f=>Ai f Z Z Bf λa f=>Aa ?_)))
    rcases Ag bi with⟨bw,bi⟩|⟨bw,bi⟩
    ·refine Am f Z bw (AE Z (Aj (Ai f Z Z AB λa f=>Ab f Z λa f=>Aa ?_)))
     obtain rfl:=sj bi
     exact⟨_,Z,_,_,_,_,_,_,Z,_,a9,ba,bb,bc,bd,be,bf,bg,bk,f.k Z,m,bl,bm,bn,bo⟩
    ·refine Ak f Z bw (An (Ae (Ab f Z λa f=>Ab f Z λa f=>Ab f Z λa f=>have m:=m.fr 5;have m:=m.fr 5;have m:=m.fr 5;have m:Mem W a8 w (ba::bc::be::bg::ib b0 70 [a9,bb,bd,bf,ai,aj]::aH::H):=m.fr 5;have m:=m.fr 4;Bd bi λbx bz bi=>A9 f Z call34 (ih m bl bm bn bo aw ax bz) λbA bB bC w bD m bE a f=> ?_)))
     obtain⟨bF,bG,bH,bI,bJ,bK,bL,bM,rfl,bN,bO,bP,bQ⟩:=bE
     refine have aw:=rd1 bD aw;have ax:=rd1 bD ax;Aa (Ah (Bg 15 AV (by kernel_rfl) m (As 0 15 Z f Z λa f=>As 1 15 Z f Z λa f=>q_p 2 15 Z f (λ_=>Bu (f.e Z)) λa f=>Br 3 15 underlying70 Z sizeOf65 Z f Z λa f=>Bo 4 15 0 Pl65 Z Z Z f Z λa f=>As 5 15 Z f Z λa f=>Bd bi λbR bS bi=>Bb 6 15 T65 aw bS Z f Z Z λbT bU a bV bW f=> ?_)))
     subst bW
     refine Ba 7 15 CU bV Z f Z λa f=>As 8 15 Z f Z λa f=>q_p 9 15 Z f (λ_=>Bu (f.e Z)) λa f=>Br 10 15 underlying70 Z sizeOf65 Z f Z λa f=>Bo 11 15 0 Pl65 Z Z Z f Z λa f=>As 12 15 Z f Z λa f=>Bd bi λbX bY bi=>Bb 13 15 T65 aw bY Z f Z Z λbZ b1 a b2 b3 f=> ?_
     subst b3
     refine Ba 14 15 CU b2 Z f Z λa f=>A4 λb4 w b5 m=>have aw:=rd1 b5 aw;have ax:=rd1 b5 ax;have bN:=od1 b5 bN;have bO:=od1 b5 bO;have bP:=od3 b5 bP;have bQ:=od3 b5 bQ;Bd bi λb6 b7 bi=>A9 f Z call35 (Wk.e0 hW m bN bO bP bQ aw ax b7) λb8 b9 ca w cb m cc a f=> ?_
     obtain⟨cd,ce,cf,cg,ch,ci,cj,ck,rfl,cl,cm,cn,co⟩:=cc
     refine have aw:=rd1 cb aw;have ax:=rd1 cb ax;Aa (Ah (Ae (Ab f Z λa f=>Ai f Z Z EA λa f=>Aa ?_)))
     rcases Ag bi with⟨cp,bi⟩|⟨cp,bi⟩
     ·refine Am f Z cp (Bd bi λcq cr bi=> ?_)
      refine AL (λa w=>∃cs:LI,∃ct:LI,∃cu:LL,∃cv:LL,(cs,ct,cu,cv)=cq∧∃(cw:GH) (cx:Value) (cy:Itm) (cz:Value) (cA:Itm) (cB:Value) (cC:Itm) (cD:Value) (cE:Itm),GLe b9 cw∧Fr a 76 [(0,pb b0),(1,iv x1),(2,iv x2),(16,aG),(17,(iv (aE.length:Int))),(18,iv a3)]∧Mem W cw w (ib b0 70 [cx,cz,cB,cD,ai,aj]::aH::cy::cA::cC::cE::H)∧Ow R0 2 cw cy cx cs∧Ow R0 2 cw cA cz ct∧Ow R1 35 cw cC cB cu∧Ow R1 35 cw cE cD cv) ?_ ?_
      ·refine Fh [ib b0 70 [cd,cf,ch,cj,ai,aj],ce,cg,ci,ck] (aH::H) 12 AV (by kernel_rfl) m (As 0 12 Z f Z λa f=>As 1 12 Z f Z λa f=>q_p 2 12 Z f (λ_=>Bu (f.e Z)) λa f=>Br 3 12 underlying70 Z sizeOf65 Z f Z λa f=>As 5 12 Z f Z λa f=>As 8 12 Z f Z λa f=>As 9 12 Z f Z λa f=>Ev (i:=4) (j:=10) (l1:= #[true,true,true,true,true,true,false,false,true,true,false,false,false]) (l2:= #[true,true,true,true,false,true,false,false,true,true,true,false,false]) Z Z (by kernel_rfl) Z Z ?_ ?_)
       ·intro cF w cG m cH cH
        refine have aw:=rd1 cG aw;have ax:=rd1 cG ax;have cl:=od1 cG cl;have cm:=od1 cG cm;have cn:=od3 cG cn;have co:=od3 cG co;Ao 0 4 m Pl65 f Z Z Z Z λa f=>Aa (cH cF [ib b0 70 [cd,cf,ch,cj,ai,aj],ce,cg,ci,ck] _ _ gr m (Bd cr λcI cJ cr=>Bb 6 12 T65 aw cJ Z f Z Z λcK cL a cM cN f=> ?_))
        subst cN
        refine Ba 7 12 CU cM Z f Z λa f=>Bw 10 Z λcO w cP m cQ cQ=>have aw:=rd1 cP aw;have ax:=rd1 cP ax;have cl:=od1 cP cl;have cm:=od1 cP cm;have cn:=od3 cP cn;have co:=od3 cP co;Bd cr λcR cS cr=>A9 f Z call96 (Wk.n m cl cm cn co aw ax cS) λcT cU cV w cW m cX a f=> ?_
        obtain⟨cY,cZ,c0,c1,c2,c3,c4,c5,rfl,rfl,c6,c7,c8,c9⟩:=cX
        refine have aw:=rd1 cW aw;have ax:=rd1 cW ax;Aa (cQ cU [ib b0 70 [cY,c0,c2,c4,ai,aj],cZ,c1,c3,c5] _ _ cW m (Bw 11 Z λda w db m dc dc=>have aw:=rd1 db aw;have ax:=rd1 db ax;have c6:=od1 db c6;have c7:=od1 db c7;have c8:=od3 db c8;have c9:=od3 db c9;AO (R:=R0) (xs:=([a2,cR.1]:LI)) (RI.one _) m T82 f Z Z Z (by decide) (All2.cons Z (All2.cons Z (All2.nil _))) λdd de w a m df f=>Aa (dc da [dd,ib b0 70 [cY,c0,c2,c4,ai,aj],cZ,c1,c3,c5] _ _ gr m (A4 λdg w dh m=>have aw:=rd1 dh aw;have df:=od1 dh df;have ax:=rd1 dh ax;have c6:=od1 dh c6;have c7:=od1 dh c7;have c8:=od3 dh c8;have c9:=od3 dh c9;?_))))
        obtain⟨di,dj,m,dk⟩:=Ow.stamp (RI.mono _) df m
        refine have aw:=rd1 dj aw;have ax:=rd1 dj ax;have c6:=od1 dj c6;have c7:=od1 dj c7;have c8:=od3 dj c8;have c9:=od3 dj c9;Bd cr λdl dm cr=>A9 f Z call95 (Wk.s hW m c6 c7 c8 c9 aw ax dk dm) λdn dp dq w dr m ds a f=> ?_
        obtain⟨dt,du,dv,dw,dx,dy,dz,dA,rfl,dB,dC,dD,dE⟩:=ds
        refine Aa (have m:=m.fr 5;have m:=m.fr 1;?_)
        obtain rfl:=sj cr
        exact⟨_,_,_,_,Z,_,dt,du,dv,dw,dx,dy,dz,dA,(gt cG (gt cP (gt cW (gt db (gt dh (gt dj dr)))))),f.k Z,m,dB,dC,dD,dE⟩
       ·intro cO w cP m cQ cQ
        refine Bd cr λcI cJ cr=>Bd cr λcR cS cr=>Bd cr λdl dm cr=>have aw:=rd1 cP aw;have ax:=rd1 cP ax;have cl:=od1 cP cl;have cm:=od1 cP cm;have cn:=od3 cP cn;have co:=od3 cP co;A9 f Z call96 (Wk.n m cl cm cn co aw ax cS) λcT cU cV w cW m cX a f=> ?_
        obtain⟨cY,cZ,c0,c1,c2,c3,c4,c5,rfl,rfl,c6,c7,c8,c9⟩:=cX
        refine have aw:=rd1 cW aw;have ax:=rd1 cW ax;Aa (cQ cU [ib b0 70 [cY,c0,c2,c4,ai,aj],cZ,c1,c3,c5] _ _ cW m (Ev (i:=4) (j:=11) (l1:= #[true,true,true,true,true,true,false,false,true,true,true,false,false]) (l2:= #[true,true,true,true,false,true,false,false,true,true,true,true,false]) Z Z (by kernel_rfl) Z Z ?_ ?_))
        ·intro cF w cG m cH cH
         refine have aw:=rd1 cG aw;have ax:=rd1 cG ax;have c6:=od1 cG c6;have c7:=od1 cG c7;have c8:=od3 cG c8;have c9:=od3 cG c9;Ao 0 4 m Pl65 f Z Z Z Z λa f=>Aa (cH cF [ib b0 70 [cY,c0,c2,c4,ai,aj],cZ,c1,c3,c5] _ _ gr m (Bb 6 12 T65 aw cJ Z f Z Z λcK cL a cM cN f=> ?_))
         subst cN
         refine Ba 7 12 CU cM Z f Z λa f=>Bw 11 Z λda w db m dc dc=>have aw:=rd1 db aw;have ax:=rd1 db ax;have c6:=od1 db c6;have c7:=od1 db c7;have c8:=od3 db c8;have c9:=od3 db c9;AO (R:=R0) (xs:=([a2,cR.1]:LI)) (RI.one _) m T82 f Z Z Z (by decide) (All2.cons Z (All2.cons Z (All2.nil _))) λdd de w a m df f=>Aa (dc da [dd,ib b0 70 [cY,c0,c2,c4,ai,aj],cZ,c1,c3,c5] _ _ gr m (A4 λdg w dh m=>have aw:=rd1 dh aw;have df:=od1 dh df;have ax:=rd1 dh ax;have c6:=od1 dh c6;have c7:=od1 dh c7;have c8:=od3 dh c8;have c9:=od3 dh c9;?_))
         obtain⟨di,dj,m,dk⟩:=Ow.stamp (RI.mono _) df m
         refine have aw:=rd1 dj aw;have ax:=rd1 dj ax;have c6:=od1 dj c6;have c7:=od1 dj c7;have c8:=od3 dj c8;have c9:=od3 dj c9;A9 f Z call95 (Wk.s hW m c6 c7 c8 c9 aw ax dk dm) λdn dp dq w dr m ds a f=> ?_
         obtain⟨dt,du,dv,dw,dx,dy,dz,dA,rfl,dB,dC,dD,dE⟩:=ds
         refine Aa (have m:=m.fr 5;have m:=m.fr 1;?_)
         obtain rfl:=sj cr
         exact⟨_,_,_,_,Z,_,dt,du,dv,dw,dx,dy,dz,dA,(gt cP (gt cW (gt cG (gt db (gt dh (gt dj dr)))))),f.k Z,m,dB,dC,dD,dE⟩
        ·intro da w db m dc dc
         refine have aw:=rd1 db aw;have ax:=rd1 db ax;have c6:=od1 db c6;have c7:=od1 db c7;have c8:=od3 db c8;have c9:=od3 db c9;AO (R:=R0) (xs:=([a2,cR.1]:LI)) (RI.one _) m T82 f Z Z Z (by decide) (All2.cons Z (All2.cons Z (All2.nil _))) λdd de w a m df f=>Aa (dc da [dd,ib b0 70 [cY,c0,c2,c4,ai,aj],cZ,c1,c3,c5] _ _ gr m (Bw 4 Z λcF w cG m cH cH=>have df:=od1 cG df;have aw:=rd1 cG aw;have ax:=rd1 cG ax;have c6:=od1 cG c6;have c7:=od1 cG c7;have c8:=od3 cG c8;have c9:=od3 cG c9;Ao 1 4 m Pl65 f Z Z Z Z λa f=>Aa (cH cF [dd,ib b0 70 [cY,c0,c2,c4,ai,aj],cZ,c1,c3,c5] _ _ gr m (Bb 6 12 T65 aw cJ Z f Z Z λcK cL a cM cN f=> ?_))))
         subst cN
         refine Ba 7 12 CU cM Z f Z λa f=>A4 λdg w dh m=>have aw:=rd1 dh aw;have df:=od1 dh df;have ax:=rd1 dh ax;have c6:=od1 dh c6;have c7:=od1 dh c7;have c8:=od3 dh c8;have c9:=od3 dh c9;?_
         obtain⟨di,dj,m,dk⟩:=Ow.stamp (RI.mono _) df m
         refine have aw:=rd1 dj aw;have ax:=rd1 dj ax;have c6:=od1 dj c6;have c7:=od1 dj c7;have c8:=od3 dj c8;have c9:=od3 dj c9;A9 f Z call95 (Wk.s hW m c6 c7 c8 c9 aw ax dk dm) λdn dp dq w dr m ds a f=> ?_
         obtain⟨dt,du,dv,dw,dx,dy,dz,dA,rfl,dB,dC,dD,dE⟩:=ds
         refine Aa (have m:=m.fr 5;have m:=m.fr 1;?_)
         obtain rfl:=sj cr
         exact⟨_,_,_,_,Z,_,dt,du,dv,dw,dx,dy,dz,dA,(gt cP (gt cW (gt db (gt cG (gt dh (gt dj dr)))))),f.k Z,m,dB,dC,dD,dE⟩
      ·rintro a w ⟨cs,ct,cu,cv,rfl,cw,cx,cy,cz,cA,cB,cC,cD,cE,dF,f,m,dG,dH,dI,dJ⟩
       refine have aw:=rd1 dF aw;have ax:=rd1 dF ax;Aj (Ab f Z λa f=>have m:=m.fr 5;have m:=m.fr 5;have m:=m.fr 5;have m:Mem W cw w (cy::cA::cC::cE::ib b0 70 [cx,cz,cB,cD,ai,aj]::aH::H):=m.fr 5;have m:=m.fr 4;Bd bi λdK dL bi=>A9 f Z call96 (Wk.n m dG dH dI dJ aw ax dL) λdM dN dO w dP m dQ a f=> ?_)
       obtain⟨dR,dS,dT,dU,dV,dW,dX,dY,rfl,rfl,dZ,d0,d1,d2⟩:=dQ
       refine Ac f Z λa f=>Aa (Aj (Ai f Z Z AB λa f=>Ab f Z λa f=>Aa (have m:=m.fr 5;have m:=m.fr 1;?_)))
       obtain rfl:=sj bi
       exact⟨_,Z,_,_,_,_,_,_,Z,_,dR,dS,dT,dU,dV,dW,dX,dY,(gt bk (gt bD (gt b5 (gt cb (gt dF dP))))),f.k Z,m,dZ,d0,d1,d2⟩
     ·refine Ak f Z cp (An (Aj (Ab f Z λa f=>Bd bi λd3 d4 bi=>A9 f Z call96 (Wk.n m cl cm cn co aw ax d4) λd5 d6 d7 w d8 m d9 a f=> ?_)))
      obtain⟨ea,eb,ec,ed,ee,ef,eg,eh,rfl,rfl,ei,ej,ek,el⟩:=d9
      refine Ac f Z λa f=>Aa (Aj (Ai f Z Z AB λa f=>Ab f Z λa f=>Aa (have m:=m.fr 5;have m:=m.fr 1;?_)))
      obtain rfl:=sj bi
      exact⟨_,Z,_,_,_,_,_,_,Z,_,ea,eb,ec,ed,ee,ef,eg,eh,(gt bk (gt bD (gt b5 (gt cb d8)))),f.k Z,m,ei,ej,ek,el⟩
   ·refine Ak f Z bp (AE Z (have m:=m.fr 5;have m:=m.fr 5;have m:=m.fr 5;have m:Mem W a8 w (ba::bc::be::bg::ib b0 70 [a9,bb,bd,bf,ai,aj]::aH::H):=m.fr 5;have m:=m.fr 4;have m:=m.eraseAt 5;?_))
    obtain rfl:=sj bi
    obtain rfl:=bj _ rfl
    exact⟨_,_,_,_,_,Z,_,a9,ba,bb,bc,bd,be,bf,bg,bk,f.k Z,m,bl,bm,bn,bo⟩
  ·rintro a w ⟨aN,aO,aP,aQ,aR,rfl,aS,aT,aU,aV,aW,aX,aY,aZ,a0,em,f,m,en,eo,ep,eq⟩
   refine have aw:=rd1 em aw;have ax:=rd1 em ax;Ae (Ab f Z λa f=>Ai f Z Z AP λa f=>Aa ?_)
   rcases Ag hd with⟨er,hd⟩|⟨er,hd⟩
   ·refine Am f Z er (Ae (Ab f Z λa f=>have es:=RSl.nil R0 aS;Bd hd λet eu hd=>A9 f Z call95 (Wk.s hW m en eo ep eq aw ax es eu) λev ew ex w ey m ez a f=> ?_))
    obtain⟨eA,eB,eC,eD,eE,eF,eG,eH,rfl,eI,eJ,eK,eL⟩:=ez
    refine have aw:=rd1 ey aw;have ax:=rd1 ey ax;Aa (Aj (Ab f Z λa f=>Ab f Z λa f=>l_o f (Bu (f.e Z)) λa f=>AQ underlying70 Z sizeOf65 f Z λa f=>Ao 0 4 m Pl65 f Z Z Z Z λa f=>Ab f Z λa f=>Bd hd λeM eN hd=>AX T65 f Z Z Z aw eN λeO eP a eQ eR f=> ?_))
    subst eR
    refine Aw m CU f Z Z eQ λa f=>Bd hd λeS eT hd=>A9 f Z call35 (Wk.e0 hW m eI eJ eK eL aw ax eT) λeU eV eW w eX m eY a f=> ?_
    obtain⟨eZ,e0,e1,e2,e3,e4,e5,e6,rfl,e7,e8,e9,fa⟩:=eY
    refine Aa ?_
    obtain rfl:=sj hd
    exact⟨[],trivial,f.d,_,[ib b0 70 [eZ,e1,e3,e5,ai,aj],e0,e2,e4,e6],(gt aJ (gt em (gt ey eX))),m,_,_,_,_,_,_,_,_,Z,e7,e8,e9,fa⟩
   ·refine Ak f Z er (An ?_)
    obtain rfl:=sj hd
    exact⟨[],trivial,f.d,_,[ib b0 70 [aT,aV,aX,aZ,ai,aj],aU,aW,aY,a0],(gt aJ em),m,_,_,_,_,_,_,_,_,Z,en,eo,ep,eq⟩
theorem Wk.C {b0:Nat}{aa:Value}{ab:Itm}{ac:Value}{ad:Itm}{ae:Value}{af:Itm}{ag:Value}{ah:Itm}{ai aj:Value}{ak al:LI}{am an:LL}{ao ap:LI}{x1 x2:Int}(hW:DM W)(m:Mem W G w (ib b0 70 [aa,ac,ae,ag,ai,aj]::ab::ad::af::ah::H))(aq:Ow R0 2 G ab aa ak)(ar:Ow R0 2 G ad ac al)(au:Ow R1 35 G af ae am)(av:Ow R1 35 G ah ag an)(aw:RSl (RI .u32) G ai ao)(ax:RSl (RI .u32) G aj ap){y:(LI)×(LI)×(LL)×(LL)}(hd:D.C ak al am an ao ap x1 x2=some y):
  Calls prog 34 #[pb b0,iv x1,iv x2] w (Res W G H (λG' Ho _=>∃r0:Value,∃i0:Itm,∃r2:Value,∃i2:Itm,∃r4:Value,∃i4:Itm,∃r6:Value,∃i6:Itm,Ho=[ib b0 70 [r0,r2,r4,r6,ai,aj],i0,i2,i4,i6]∧Ow R0 2 G' i0 r0 y.1∧Ow R0 2 G' i2 r2 y.2.1∧Ow R1 35 G' i4 r4 y.2.2.1∧Ow R1 35 G' i6 r6 y.2.2.2)):=by
 exact Wk.m0 hW Bx m aq ar au av aw ax hd
theorem Wk.T1 {v0:Value}{x0:LL}(m:Mem W G w (H))(h0:R2 G v0 x0){y:Int}(hd:D.T1 x0=some y):
  Calls prog 92 #[v0,Fv 31] w (Res W G H (λ_ Ho v=>Ho=[]∧v=(iv y))):=by
 refine Au (args:=[v0,Fv 31]) (N:=19) [.tmp 4] func92 Z Z (lb Z) Z λa f=> ?_
 unfold D.T1 at hd
 refine Ae (Ac f Z λa f=>Aa (Ah (Ae (Ab f Z λa f=>AN underlying27 f Z Z h0 λa f=>Ab f Z λa f=>Aa (Bd hd λaa ab hd=> ?_)))))
 refine AL (λa w=>∃q_33':Unit,aa= .inl q_33'∧∃(ac:GH),GLe G ac∧Fr a 19 []∧Mem W ac w (H)) ?_ ?_
 ·refine Al (AM (λad a w=>∃ae:Int,ae=ad∧∃(af:GH),GLe G af∧Fr a 19 [(0,v0),(1,Fv 31),(7,(iv (x0.length:Int))),(8,iv ae)]∧Mem W af w (H)) ab ⟨_,Z,_,gr,f.k Z,m⟩ ?_)
  clear ab f m
  rintro ad ag ah ai a w ⟨ae,rfl,af,aj,f,m⟩
  refine have h0:=rd2 aj h0;Ae (Ai f Z Z AP λa f=>Aa (Ah ?_))
  rcases Ag ah with⟨ak,ah⟩|⟨ak,ah⟩
  ·refine Am f Z ak (An (Ah (Al (Ae (Ab f Z λa f=>Ac f Z λa f=>AF (Ab f Z λa f=>Ab f Z λa f=>Ab f Z λa f=>Bd ah λal am ah=>AX T27 f Z Z Z h0 am λan ao a ap aq f=>Aw m AY f Z Z ap λa f=>Bd ah λar au ah=>CC f Z Z Z call31 (Wk.c1 m aq au) λav aw ax w ay m az a f=> ?_))))))
   obtain⟨rfl,rfl⟩:=az
   refine Aa ?_
   rcases Ag ah with⟨aA,ah⟩|⟨aA,ah⟩
   ·refine Am f Z aA (Ae (Ab f Z λa f=>Ac f Z λa f=>Aa (Ar ?_)))
    obtain rfl:=sj ah
    obtain rfl:=ai _ rfl
    obtain rfl:=sj hd
    exact⟨[iv ae],f.g Z,f.d,_,[],(gt aj ay),m,Z,Z⟩
   ·refine Ak f Z aA (An (Aj (Ai f Z Z AB λa f=>Ab f Z λa f=>Aa ?_)))
    obtain rfl:=sj ah
    exact⟨_,Z,_,Z,_,(gt aj ay),f.k Z,m⟩
  ·refine Ak f Z ak (AE Z ?_)
   obtain rfl:=sj ah
   obtain rfl:=ai _ rfl
   exact⟨_,Z,_,aj,f.weak trivial,m⟩
 ·rintro a w ⟨_,rfl,ac,aB,f,m⟩
  refine Ae (Ac f Z λa f=>Aa (Ar ?_))
  obtain rfl:=sj hd
  exact⟨[(iv (-1))],f.g Z,f.d,_,[],aB,m,Z,Z⟩
theorem Wk.M0 {v0:Value}{x0:LL}(m:Mem W G w (H))(h0:R2 G v0 x0){y:Bool}(hd:D.M0 x0=some y):
  Calls prog 30 #[v0,Fv 31] w (Res W G H (λ_ Ho v=>Ho=[]∧v=(.bool y))):=by
 refine Au (args:=[v0,Fv 31]) (N:=9) [.tmp 4] func30 Z Z (lb Z) Z λa f=> ?_
 unfold D.M0 at hd
 refine Ae (Ac f Z λa f=>AF (Ab f Z λa f=>Ab f Z λa f=>Bd hd λaa ab hd=>A2 f Z call92 (Wk.T1 m h0 ab) λac w ad m a f=>Ai f Z Z EA λa f=>Ac f Z λa f=>Aa (Ar ?_)))
 obtain rfl:=sj hd
 exact⟨[(.bool (decide ((0:Int)≤aa)))],f.g Z,f.d,_,[],ad,m,Z,Z⟩
theorem Wk.K {aa ab ac:Value}{ad ae af:LL}(hW:DM W)(m:Mem W G w (H))(ag:R2 G aa ad)(ah:R2 G ab ae)(ai:R2 G ac af){y:(LI)×(LI)×(LL)×(LL)×Bool}(hd:D.K ad ae af=some y):
  Calls prog 9 #[(.agg #[aa]),(.agg #[ab,ac])] w (Res W G H (λG' Ho v=>∃r0:Value,∃i0:Itm,∃r2:Value,∃i2:Itm,∃r4:Value,∃i4:Itm,∃r6:Value,∃i6:Itm,Ho=[i0,i2,i4,i6]∧v= .tuple #[(.agg #[r0,r2,r4,r6]),(.bool y.2.2.2.2)]∧Ow R0 2 G' i0 r0 y.1∧Ow R0 2 G' i2 r2 y.2.1∧Ow R1 35 G' i4 r4 y.2.2.1∧Ow R1 35 G' i6 r6 y.2.2.2.1)):=by
 refine Au (args:=[(.agg #[aa]),(.agg #[ab,ac])]) (N:=46) [.cell 4 38,.tmp 5] func9 Z Z (lb Z) Z λa f=> ?_
 unfold D.K at hd
 refine Ae (A3 (cs:=[aa]) m f Z Z Z λaj w a m f=>A3 (cs:=[ab,ac]) m f Z Z Z λak w a m f=>Bp (cs:=[sn,sn,sn,sn]) zeroValue38 m f Z Z λal w a m f=>Ac f Z λa f=>Aa (Ah (Ae (Ay 2 0 (ds:=[aa]) m Bh f Z Z Z Z Z λa f=>Ay 1 0 (ds:=[ab,ac]) m DH f Z Z Z Z Z λa f=>Bd hd λam an hd=>A2 f Z call29 (Wk.P0 hW m ag ah ai an) λao w ap m a f=>have ah:=rd2 ap ah;have ai:=rd2 ap ai;l_o f (Bj (f.e Z)) λa f=>Ab f Z λa f=>Bd hd λaq ar hd=> ?_))))
 refine Bk 4 (λa w=>∃au,GLe ao au∧Mem W au w (ib al 38 [sn,sn,sn,sn]::ib ak 32 [ab,ac]::ib aj 29 [aa]::H)∧Fr a 46 [(0,(.agg #[aa])),(1,(.agg #[ab,ac])),(2,pb aj),(3,pb ak),(4,pb al),(7,(.agg #[aa])),(8,(.agg #[ab,ac])),(9,(.bool am)),(10,(.bool (!am))),(11,(.bool (!am))),(15,(.bool aq))]) ?_ ?_
 ·rcases Ag ar with⟨av,ar⟩|⟨av,ar⟩
  ·refine Aq f av λa f=>Aq f av λa f=>Aq f av λa f=>l_o f (AK (f.e Z) av (f.e Z)) λa f=> ?_
   obtain rfl:=sj ar
   exact⟨_,gr,m,f.k Z⟩
  ·refine Ap f av (AQ underlying32 Z sizeOf27 f Z λa f=>Ap f av (Ao 1 0 m AW f Z Z Z Z λa f=>Ap f av (Bd ar λaw ax ar=>A2 f Z call30 (Wk.M0 m ah ax) λay w az m a f=>l_o f (AI (f.e Z) av (f.e Z)) λa f=> ?_)))
   obtain rfl:=sj ar
   exact⟨_,az,m,f.k Z⟩
 ·rintro a w ⟨au,aA,m,f⟩
  refine have ah:=rd2 aA ah;have ai:=rd2 aA ai;Aa ?_
  rcases Ag hd with⟨aB,hd⟩|⟨aB,hd⟩
  ·refine Am f Z aB (Ae ?_)
   have aC:∀w,(Instr.build 38 #[]).run prog w= .ok (.agg #[sn,sn,sn,sn]) w:=by intro w;simp[Instr.build,Instr.fill,Cb,B5,BI,BQ,BA,B9,B3]
   refine CM f Z Z aC λa f=>Ax 0 0 (ds:=[sn,sn,sn,sn]) m sizeOf38 f Z Z Z (Af Z (Af Z (Af Z (Af Z AG)))) Z (lb Z) Z λw m=>Ac f Z λa f=>Aa (Ar ?_)
   obtain⟨aD,m,aE⟩:=Ow.nil R0 2 m
   obtain⟨aF,m,aG⟩:=Ow.nil R0 2 m
   obtain⟨aH,m,aI⟩:=Ow.nil R1 35 m
   obtain⟨aJ,m,aK⟩:=Ow.nil R1 35 m
   refine have aL:=Cs (P:=prog) 4 m Cd f (s:=4) rfl rfl rfl;have m:=m.fr 1;have m:=m.fr 2;have m:=m.fr 3;have m:Mem W au w (aD::aF::aH::aJ::ib al 38 [sn,sn,sn,sn]::ib ak 32 [ab,ac]::H):=m.eraseAt 6;have m:=m.eraseAt 5;have m:=m.eraseAt 4;?_
   obtain rfl:=sj hd
   exact⟨[(.agg #[sn,sn,sn,sn]),(.bool false)],⟨aL,f.get _ _ Z,trivial⟩,f.d,_,[aD,aF,aH,aJ],(gt ap aA),m,_,_,_,_,_,_,_,_,Z,Z,aE,aG,aI,aK⟩
  ·refine Ak f Z aB (An (Ah (Bg 5 AV (by kernel_rfl) m (Br 0 5 underlying32 Z sizeOf27 Z f Z λa f=>Bo 1 5 1 AW Z Z Z f Z λa f=>Bc (i:=3) (ds:=[ab,ac]) 5 1 DH Z Z Z Z (by kernel_rfl) Z f Z Z Z λa f=>Bw 2 Z λaM w aN m aO aO=>have ah:=rd2 aN ah;have ai:=rd2 aN ai;Bd hd λaP aQ hd=>BK f Z call32 (Wk.v m ah aQ) λaR aS aT w aU m aV a f=>have ah:=rd2 aU ah;have ai:=rd2 aU ai;Aa (aO aT [aS] _ _ aU m (Bw 4 Z λaW w aX m aY aY=>have ah:=rd2 aX ah;have ai:=rd2 aX ai;have aV:=od1 aX aV;Bd hd λaZ a0 hd=>BK f Z call33 (Wk.v0 m ah ai a0) λa1 a2 a3 w a4 m a5 a f=>have aV:=od1 a4 aV;Aa (aY a3 [a2,aS] _ _ a4 m (A4 λa6 w a7 m=>have a5:=od1 a7 a5;have aV:=od1 a7 aV;?_))))))))
   have a8:∀w,(Instr.build 70 #[(1,aR),(2,a1)]).run prog w= .ok (.agg #[sn,sn,sn,sn,aR,a1]) w:=by intro w;simp[Instr.build,Instr.fill,(Ow.cells 1 m aV rfl),(Ow.cells 0 m a5 rfl),Cb,B5,BI,BQ,BA,B9,B3]
   refine CM f Z Z a8 λa f=>A3 (cs:=[sn,sn,sn,sn,aR,a1]) m f Z Z Z λa9 w a m f=>Ac f Z λa f=>AF (Ab f Z λa f=> ?_)
   obtain⟨ba,m,bb⟩:=Ow.nil R0 2 m
   obtain⟨bc,m,bd⟩:=Ow.nil R0 2 m
   obtain⟨be,m,bf⟩:=Ow.nil R1 35 m
   obtain⟨bg,m,bh⟩:=Ow.nil R1 35 m
   have m:=m.fr 6
   obtain⟨bi,bj,m,bk⟩:=Ow.stamp (RI.mono _) aV m
   refine have bh:=od3 bj bh;have bf:=od3 bj bf;have bd:=od1 bj bd;have bb:=od1 bj bb;have a5:=od1 bj a5;have m:=m.fr 5;?_
   obtain⟨bl,bm,m,bn⟩:=Ow.stamp (RI.mono _) a5 m
   refine have bh:=od3 bm bh;have bf:=od3 bm bf;have bd:=od1 bm bd;have bb:=od1 bm bb;have bk:=rd1 bm bk;have m:=m.fr 1;have m:=m.fr 2;have m:=m.fr 3;have m:=m.fr 4;Bd hd λbo bp hd=>A9 f Z call34 (Wk.C hW m bb bd bf bh bk bn bp) λbq br bs w bt m bu a f=> ?_
   obtain⟨bv,bw,bx,bz,bA,bB,bC,bD,rfl,bE,bF,bG,bH⟩:=bu
   refine have bk:=rd1 bt bk;have bn:=rd1 bt bn;AF (Ab f Z λa f=>Ab f Z λa f=>l_o f (Bu (f.e Z)) λa f=>AQ underlying70 Z sizeOf65 f Z λa f=>Ao 0 4 m Pl65 f Z Z Z Z λa f=>Bd hd λbI bJ hd=>AX T65 f Z Z Z bk bJ λbK bL a bM bN f=> ?_)
   subst bN
   refine Aw m CU f Z Z bM λa f=>Bd hd λbO bP hd=>A9 f Z call35 (Wk.e0 hW m bE bF bG bH bk bn bP) λbQ bR bS w bT m bU a f=> ?_
   obtain⟨bV,bW,bX,bY,bZ,b0,b1,b2,rfl,b3,b4,b5,b6⟩:=bU
   refine Aa (Ah (Ae (Ab f Z λa f=>l_o f (Bu (f.e Z)) λa f=>AQ underlying70 Z sizeOf38 f Z λa f=>AQ underlying38 Z sizeOf35 f Z λa f=>Ao 0 0 m AY f Z Z Z Z λa f=>BH 1 m b3 Z underlying35 f Z Z λa f=>Ai f Z Z CK λa f=>Aa ?_)))
   rcases Ag hd with⟨b7,hd⟩|⟨b7,hd⟩
   ·refine Am f Z b7 (Ae ?_)
    have b8:∀w,(Instr.build 38 #[]).run prog w= .ok (.agg #[sn,sn,sn,sn]) w:=by intro w;simp[Instr.build,Instr.fill,Cb,B5,BI,BQ,BA,B9,B3]
    refine CM f Z Z b8 λa f=>Ax 5 0 (ds:=[sn,sn,sn,sn]) m sizeOf38 f Z Z Z (Af Z (Af Z (Af Z (Af Z AG)))) Z (lb Z) Z λw m=>Ac f Z λa f=>Aa (Ar ?_)
    obtain⟨b9,m,ca⟩:=Ow.nil R0 2 m
    obtain⟨cb,m,cc⟩:=Ow.nil R0 2 m
    obtain⟨cd,m,ce⟩:=Ow.nil R1 35 m
    obtain⟨cf,m,cg⟩:=Ow.nil R1 35 m
    refine have ch:=Cs (P:=prog) 9 m Cd f (s:=4) rfl rfl rfl;have m:=m.fr 1;have m:=m.fr 2;have m:=m.fr 3;have m:Mem W bR w (b2::b9::cb::cd::cf::ib a9 70 [bV,bX,bZ,b1,aR,a1]::bW::bY::b0::ib al 38 [sn,sn,sn,sn]::ib ak 32 [ab,ac]::ib aj 29 [aa]::H):=m.fr 8;have m:=m.fr 8;have m:=m.fr 8;have m:=m.fr 8;have m:Mem W bR w (cf::bW::bY::b0::b2::b9::cb::cd::ib a9 70 [bV,bX,bZ,b1,aR,a1]::ib al 38 [sn,sn,sn,sn]::ib ak 32 [ab,ac]::ib aj 29 [aa]::H):=m.fr 7;have m:=m.fr 7;have m:=m.fr 7;have m:=m.fr 7;have m:Mem W bR w (b9::cb::cd::cf::bW::bY::b0::b2::ib a9 70 [bV,bX,bZ,b1,aR,a1]::ib al 38 [sn,sn,sn,sn]::ib ak 32 [ab,ac]::H):=m.eraseAt 11;have m:=m.eraseAt 10;have m:=m.eraseAt 9;have m:=m.eraseAt 8;have m:Mem W bR w (b9::cb::cd::cf::bW::bY::b0::H):=m.eraseAt 7;have m:=m.eraseAt 6;have m:=m.eraseAt 5;have m:=m.eraseAt 4;?_
    obtain rfl:=sj hd
    exact⟨[(.agg #[sn,sn,sn,sn]),(.bool false)],⟨ch,f.get _ _ Z,trivial⟩,f.d,_,[b9,cb,cd,cf],(gt ap (gt aA (gt aN (gt aU (gt aX (gt a4 (gt a7 (gt bj (gt bm (gt bt bT)))))))))),m,_,_,_,_,_,_,_,_,Z,Z,ca,cc,ce,cg⟩
   ·refine Ak f Z b7 (An (Ae (Ab f Z λa f=>l_o f (Bu (f.e Z)) λa f=>AQ underlying70 Z sizeOf38 f Z λa f=>Ay 0 0 (ds:=[bV,bX,bZ,b1]) m Cd f Z Z Z Z Z λa f=>Ax 5 0 (ds:=[bV,bX,bZ,b1]) m sizeOf38 f Z Z Z (Af (Ow.one1 1 m b3 Z) (Af (Ow.one1 2 m b4 Z) (Af (Ow.one1 3 m b5 Z) (Af (Ow.one1 4 m b6 Z) AG)))) Z (lb Z) Z λw m=>Ac f Z λa f=>Aa (Ar (have ci:=Cs (P:=prog) 5 m Cd f (s:=4) rfl rfl rfl;have m:=m.fr 4;have m:=m.fr 4;have m:=m.fr 4;have m:Mem W bR w (bW::bY::b0::b2::ib a9 70 [bV,bX,bZ,b1,aR,a1]::ib al 38 [bV,bX,bZ,b1]::ib ak 32 [ab,ac]::ib aj 29 [aa]::H):=m.fr 4;have m:=m.eraseAt 7;have m:=m.eraseAt 6;have m:=m.eraseAt 5;have m:=m.eraseAt 4;?_)))))
    obtain rfl:=sj hd
    exact⟨[(.agg #[bV,bX,bZ,b1]),(.bool true)],⟨ci,f.get _ _ Z,trivial⟩,f.d,_,[bW,bY,b0,b2],(gt ap (gt aA (gt aN (gt aU (gt aX (gt a4 (gt a7 (gt bj (gt bm (gt bt bT)))))))))),m,_,_,_,_,_,_,_,_,Z,Z,b3,b4,b5,b6⟩
theorem Wk.V0 {aa ab:Value}{ac ad:LL}(m:Mem W G w (H))(ae:R2 G aa ac)(af:R2 G ab ad){y:Bool}(hd:D.V0 ac ad=some y):
  Calls prog 128 #[(.agg #[aa,ab])] w (Res W G H (λ_ Ho v=>Ho=[]∧v=(.bool y))):=by
 refine Au (args:=[(.agg #[aa,ab])]) (N:=41) [.tmp 2] func128 Z Z (lb Z) Z λa f=> ?_
 unfold D.V0 at hd
 refine Ae (A3 (cs:=[aa,ab]) m f Z Z Z λag w a m f=>Ac f Z λa f=>AF (AQ underlying32 Z sizeOf27 f Z λa f=>Ao 0 0 m AW f Z Z Z Z λa f=>AN underlying27 f Z Z ae λa f=>Ac f Z λa f=>Aa (Ah (Ae (Ab f Z λa f=>Bd hd λah ai hd=>A2 f Z call75 (Wk.b m ai) λaj w ak m a f=>have af:=rd2 ak af;l_o f (Bj (f.e Z)) λa f=>Ab f Z λa f=> ?_)))))
 refine Bk 5 (λa w=>∃al,GLe aj al∧Mem W al w (ib ag 32 [aa,ab]::H)∧Fr a 41 [(0,(.agg #[aa,ab])),(1,pb ag),(3,(iv (ac.length:Int))),(8,(iv (ac.length:Int))),(9,(.bool ah)),(10,(.bool (!ah))),(11,(.bool (!ah))),(16,(.bool ((!ah)||(decide ((16:Int)<(ad.length:Int))))))]) ?_ ?_
 ·rcases Bool.eq_false_or_eq_true (!ah) with am|am
  ·exact Aq f am λa f=>Aq f am λa f=>Aq f am λa f=>Aq f am λa f=>l_o f (AK (f.e Z) am (f.e Z)) λa f=>⟨_,gr,m,f.weak ⟨Z,Z,Z,Z,Z,Z,Z,by rw[am];rfl,trivial⟩⟩
  ·exact Ap f am (AQ underlying32 Z sizeOf27 f Z λa f=>Ap f am (Ao 0 1 m AW f Z Z Z Z λa f=>Ap f am (AN underlying27 f Z Z af λa f=>Ap f am (Ai f Z Z CK λa f=>l_o f (AI (f.e Z) am (f.e Z)) λa f=>⟨_,gr,m,f.weak ⟨Z,Z,Z,Z,Z,Z,Z,by rw[am];rfl,trivial⟩⟩))))
 ·rintro a w ⟨al,an,m,f⟩
  refine have af:=rd2 an af;Aa ?_
  rcases Ag hd with⟨ao,hd⟩|⟨ao,hd⟩
  ·refine Am f Z ao (Ae (Ac f Z λa f=>Aa (Ar (have m:=m.dp 1;?_))))
   obtain rfl:=sj hd
   exact⟨[(.bool false)],f.g Z,f.d,_,[],(gt ak an),m,Z,Z⟩
  ·refine Ak f Z ao (An (Ah (Ae (Ac f Z λa f=>Aa (Bd hd λap aq hd=> ?_)))))
   refine AL (λa w=>∃q_120':Unit,ap= .inl q_120'∧∃(ar:GH),GLe al ar∧Fr a 41 []∧Mem W ar w (H)) ?_ ?_
   ·refine Al (AM (λau a w=>∃av:Int,av=au∧∃(aw:GH),GLe al aw∧Fr a 41 [(1,pb ag),(3,(iv (ac.length:Int))),(4,iv av)]∧Mem W aw w (ib ag 32 [aa,ab]::H)) aq ⟨_,Z,_,gr,f.k Z,m⟩ ?_)
    clear aq f m
    rintro au ax ay az a w ⟨av,rfl,aw,aA,f,m⟩
    refine have af:=rd2 aA af;Ah (Ae (Ab f Z λa f=>AQ underlying32 Z sizeOf27 f Z λa f=>Ao 0 1 m AW f Z Z Z Z λa f=>AN underlying27 f Z Z af λa f=>Ai f Z Z AP λa f=>Aa ?_))
    rcases Ag ay with⟨aB,ay⟩|⟨aB,ay⟩
    ·refine Am f Z aB (An (Ah (Al (Ae (AQ underlying32 Z sizeOf27 f Z λa f=>Ao 0 1 m AW f Z Z Z Z λa f=>Ab f Z λa f=>Bd ay λaC aD ay=>AX T27 f Z Z Z af aD λaE aF a aG aH f=>Aw m AY f Z Z aG λa f=>AN underlying35 f Z Z aH λa f=>Ai f Z Z Cw λa f=>Ab f Z λa f=>Bd ay λaI aJ ay=> ?_)))))
     refine Bk 9 (λa w=>∃aK,GLe aw aK∧Mem W aK w (ib ag 32 [aa,ab]::H)∧Fr a 41 [(1,pb ag),(3,(iv (ac.length:Int))),(4,iv av),(21,(.bool (decide (av<(ad.length:Int))))),(24,(.pointer (some ⟨ag,1,none⟩))),(25,ab),(26,iv av),(27,aE),(28,aF),(29,(iv (aC.length:Int))),(30,(.bool ((aC.length:Int) !=2))),(31,(.bool ((aC.length:Int) !=2))),(40,(.bool aI))]) ?_ ?_
     ·rcases Ag aJ with⟨aL,aJ⟩|⟨aL,aJ⟩
      ·refine Aq f aL λa f=>Aq f aL λa f=>Aq f aL λa f=>Aq f aL λa f=>Aq f aL λa f=>Aq f aL λa f=>Aq f aL λa f=>Aq f aL λa f=>l_o f (AK (f.e Z) aL (f.e Z)) λa f=> ?_
       obtain rfl:=sj aJ
       exact⟨_,gr,m,f.k Z⟩
      ·refine Ap f aL (AQ underlying32 Z sizeOf27 f Z λa f=>Ap f aL (Ao 0 1 m AW f Z Z Z Z λa f=>Ap f aL (Ab f Z λa f=>Ap f aL (Bd aJ λaM aN aJ=>AX T27 f Z Z Z af aN λaO aP a aQ aR f=>Ap f aL (Aw m AY f Z Z aQ λa f=>Ap f aL (Ab f Z λa f=>Ap f aL (Bd aJ λaS aT aJ=>A2 f Z call79 (Wk.A m aR aT) λaU w aV m a f=>Ap f aL (l_o f (Bj (f.e Z)) λa f=>l_o f (AI (f.e Z) aL (f.e Z)) λa f=> ?_))))))))
       obtain rfl:=sj aJ
       exact⟨_,aV,m,f.k Z⟩
     ·rintro a w ⟨aK,aW,m,f⟩
      refine Aa ?_
      rcases Ag ay with⟨aX,ay⟩|⟨aX,ay⟩
      ·refine Am f Z aX (Ae (Ac f Z λa f=>Aa (Ar (have m:=m.dp 1;?_))))
       obtain rfl:=sj ay
       obtain rfl:=az _ rfl
       obtain rfl:=sj hd
       exact⟨[(.bool false)],f.g Z,f.d,_,[],(gt ak (gt an (gt aA aW))),m,Z,Z⟩
      ·refine Ak f Z aX (An (Aj (Ab f Z λa f=>Ai f Z Z AB λa f=>Ac f Z λa f=>Aa ?_)))
       obtain rfl:=sj ay
       exact⟨_,Z,_,Z,_,(gt aA aW),f.k Z,m⟩
    ·refine Ak f Z aB (AE Z (have m:=m.dp 1;?_))
     obtain rfl:=sj ay
     obtain rfl:=az _ rfl
     exact⟨_,Z,_,aA,f.weak trivial,m⟩
   ·rintro a w ⟨_,rfl,ar,aY,f,m⟩
    refine Ae (Ac f Z λa f=>Aa (Ar ?_))
    obtain rfl:=sj hd
    exact⟨[(.bool true)],f.g Z,f.d,_,[],(gt ak (gt an aY)),m,Z,Z⟩
theorem Wk.T0 {x0:Int}(m:Mem W G w (H)){y:(LI)}(hd:D.T0 x0=some y):
  Calls prog 129 #[iv x0] w (Res W G H (λG' Ho v=>∃r0:Value,∃i0:Itm,Ho=[i0]∧r0=v∧Ow R0 2 G' i0 r0 y)):=by
 refine Au (args:=[iv x0]) (N:=16) [.tmp 2] func129 Z Z (lb Z) Z λa f=> ?_
 unfold D.T0 at hd
 refine Ae (Ac f Z λa f=>AF (AO (R:=R0) (xs:=([]:LI)) (RI.one _) m T35 f Z Z Z (by decide) (All2.nil _) λaa ab w a m ac f=>Ac f Z λa f=>Aa (Ah (Ae (Ac f Z λa f=>Aa (Bd hd λad ae hd=> ?_))))))
 refine AL (λa w=>∃af:LI,af=ad∧∃(ag:GH) (ah:Value) (ai:Itm),GLe G ag∧Fr a 16 [(3,ah)]∧Mem W ag w (ai::H)∧Ow R0 2 ag ai ah af) ?_ ?_
 ·refine Al (AM (λaj a w=>∃ak:LI,∃al:Int,(ak,al)=aj∧∃(am:GH) (an:Value) (ao:Itm),GLe G am∧Fr a 16 [(0,iv x0),(3,an),(4,iv al)]∧Mem W am w (ao::H)∧Ow R0 2 am ao an ak) ae ⟨_,_,Z,_,ab,aa,gr,f.k Z,m,ac⟩ ?_)
  clear ae f m
  rintro aj ap aq ar a w ⟨ak,al,rfl,am,an,ao,au,f,m,av⟩
  refine Ah (Ae (Ab f Z λa f=>Ab f Z λa f=>Ai f Z Z AP λa f=>Aa ?_))
  rcases Ag aq with⟨aw,aq⟩|⟨aw,aq⟩
  ·refine Am f Z aw (An (Ah (Al (Aj (Ab f Z λa f=>Ab f Z λa f=>AO (R:=R0) (xs:=([al]:LI)) (RI.one _) m T35 f Z Z Z (by decide) (All2.cons Z (All2.nil _)) λax ay w a m az f=>Bd aq λaA aB aq=>A6 (RI.one _) 1 m av Z T35 Z (by decide) f Z Z Z (Ow.src (j:=0) az m Z) aB λaC aD w a m aE f=>Ac f Z λa f=>Aa (Aj (Ab f Z λa f=>Ai f Z Z AB λa f=>Ac f Z λa f=>Aa (have m:=m.fr 1;have m:=m.eraseAt 1;?_))))))))
   obtain rfl:=sj aq
   exact⟨_,Z,_,_,Z,_,aD,aC,au,f.k Z,m,aE⟩
  ·refine Ak f Z aw (AE Z ?_)
   obtain rfl:=sj aq
   obtain rfl:=ar _ rfl
   exact⟨_,Z,_,an,ao,au,f.k Z,m,av⟩
 ·rintro a w ⟨af,rfl,ag,ah,ai,aF,f,m,aG⟩
  refine Ae (Ab f Z λa f=>Ac f Z λa f=>Aa (Ar ?_))
  obtain rfl:=sj hd
  exact⟨[ah],f.g Z,f.d,_,[ai],aF,m,_,_,Z,Z,aG⟩
theorem Wk.K0 {aa ab:Value}{ac ad:LL}{x1:Int}(m:Mem W G w (H))(ae:R2 G aa ac)(af:R2 G ab ad){y:(LI)}(hd:D.K0 ac ad x1=some y):
  Calls prog 131 #[(.agg #[aa,ab]),iv x1] w (Res W G H (λG' Ho v=>∃r0:Value,Ho=[]∧r0=v∧R1 G' r0 y)):=by
 refine Au (args:=[(.agg #[aa,ab]),iv x1]) (N:=52) [.tmp 4] func131 Z Z (lb Z) Z λa f=> ?_
 unfold D.K0 at hd
 refine Ae (A3 (cs:=[aa,ab]) m f Z Z Z λag w a m f=>Ac f Z λa f=>AF (AO (R:=R0) (xs:=([]:LI)) (RI.one _) m T35 f Z Z Z (by decide) (All2.nil _) λah ai w a m aj f=>Ac f Z λa f=>Aa (Ah (Ae (Ac f Z λa f=>Aa ?_)))))
 obtain⟨ak,al,m,am⟩:=Ow.stamp (RI.mono _) aj m
 refine have af:=rd2 al af;Bd hd λan ao hd=> ?_
 refine AL (λa w=>∃ap:LI,ap=an∧∃(aq:GH) (ar:Value),GLe ak aq∧Fr a 52 [(5,ar)]∧Mem W aq w (H)∧R1 aq ar ap) ?_ ?_
 ·refine Al (AM (λau a w=>∃av:LI,∃aw:Int,(av,aw)=au∧∃(ax:GH) (ay:Value),GLe ak ax∧Fr a 52 [(1,iv x1),(2,pb ag),(5,ay),(6,iv aw)]∧Mem W ax w (ib ag 32 [aa,ab]::H)∧R1 ax ay av) ao ⟨_,_,Z,_,ai,gr,f.k Z,m,am⟩ ?_)
  clear ao f m
  rintro au az aA aB a w ⟨av,aw,rfl,ax,ay,aC,f,m,aD⟩
  refine have af:=rd2 aC af;Ah (Ae (Ab f Z λa f=>AQ underlying32 Z sizeOf27 f Z λa f=>Ao 0 1 m AW f Z Z Z Z λa f=>AN underlying27 f Z Z af λa f=>Ai f Z Z AP λa f=>Aa ?_))
  rcases Ag aA with⟨aE,aA⟩|⟨aE,aA⟩
  ·refine Am f Z aE (An (Ah (Al (Ah (Ae (AQ underlying32 Z sizeOf27 f Z λa f=>Ao 0 1 m AW f Z Z Z Z λa f=>Ab f Z λa f=>Bd aA λaF aG aA=>AX T27 f Z Z Z af aG λaH aI a aJ aK f=>Aw m AY f Z Z aJ λa f=>Bd aA λaL aM aA=>AX T35 f Z Z Z aK aM λaN aO a aP aQ f=> ?_))))))
   subst aQ
   refine Aw m Pl2 f Z Z aP λa f=>Ab f Z λa f=>Ai f Z Z Bf λa f=>Aa (Bd aA λaR aS aA=> ?_)
   refine AL (λa w=>∃aT:LI,aT=aR∧∃(aU:GH) (aV:Value),GLe ax aU∧Fr a 52 [(1,iv x1),(2,pb ag),(5,aV),(6,iv aw)]∧Mem W aU w (ib ag 32 [aa,ab]::H)∧R1 aU aV aT) ?_ ?_
   ·rcases Ag aS with⟨aW,aS⟩|⟨aW,aS⟩
    ·refine Am f Z aW (Aj (Ab f Z λa f=>AQ underlying32 Z sizeOf27 f Z λa f=>Ao 0 1 m AW f Z Z Z Z λa f=>Ab f Z λa f=>Bd aS λaX aY aS=>AX T27 f Z Z Z af aY λaZ a0 a a1 a2 f=>Aw m AY f Z Z a1 λa f=>Bd aS λa3 a4 aS=>AX T35 f Z Z Z a2 a4 λa5 a6 a a7 a8 f=> ?_))
     subst a8
     refine Aw m Pl2 f Z Z a7 λa f=>Bd aS λa9 ba aS=>A9 f Z call25 (Wk.q m aD ba) λbb bc bd w be m bf a f=> ?_
     obtain⟨bg,rfl,rfl,bh⟩:=bf
     refine Ac f Z λa f=>Aa ?_
     obtain rfl:=sj aS
     exact⟨_,Z,_,bg,be,f.k Z,m,bh⟩
    ·refine Ak f Z aW (An ?_)
     obtain rfl:=sj aS
     exact⟨_,Z,_,ay,gr,f.k Z,m,aD⟩
   ·rintro a w ⟨aT,rfl,aU,aV,bi,f,m,bj⟩
    refine have af:=rd2 bi af;Ae (AQ underlying32 Z sizeOf27 f Z λa f=>Ao 0 1 m AW f Z Z Z Z λa f=>Ab f Z λa f=>Bd aA λbk bl aA=>AX T27 f Z Z Z af bl λbm bn a bo bp f=>Aw m AY f Z Z bo λa f=>Bd aA λbq br aA=>AX T35 f Z Z Z bp br λbs bt a bu bv f=> ?_)
    subst bv
    refine Aw m Pl2 f Z Z bu λa f=>Ab f Z λa f=>Ai f Z Z Bf λa f=>Aa ?_
    rcases Ag aA with⟨bw,aA⟩|⟨bw,aA⟩
    ·refine Am f Z bw (Aj (Ab f Z λa f=>AQ underlying32 Z sizeOf27 f Z λa f=>Ao 0 1 m AW f Z Z Z Z λa f=>Ab f Z λa f=>Bd aA λbx bz aA=>AX T27 f Z Z Z af bz λbA bB a bC bD f=>Aw m AY f Z Z bC λa f=>Bd aA λbE bF aA=>AX T35 f Z Z Z bD bF λbG bH a bI bJ f=> ?_))
     subst bJ
     refine Aw m Pl2 f Z Z bI λa f=>Bd aA λbK bL aA=>A9 f Z call25 (Wk.q m bj bL) λbM bN bO w bP m bQ a f=> ?_
     obtain⟨bR,rfl,rfl,bS⟩:=bQ
     refine Ac f Z λa f=>Aa (Aj (Ab f Z λa f=>Ai f Z Z AB λa f=>Ac f Z λa f=>Aa ?_))
     obtain rfl:=sj aA
     exact⟨_,Z,_,_,Z,_,bR,(gt aC (gt bi bP)),f.k Z,m,bS⟩
    ·refine Ak f Z bw (An (Aj (Ab f Z λa f=>Ai f Z Z AB λa f=>Ac f Z λa f=>Aa ?_)))
     obtain rfl:=sj aA
     exact⟨_,Z,_,_,Z,_,aV,(gt aC bi),f.k Z,m,bj⟩
  ·refine Ak f Z aE (AE Z (have m:=m.dp 1;?_))
   obtain rfl:=sj aA
   obtain rfl:=aB _ rfl
   exact⟨_,Z,_,ay,aC,f.k Z,m,aD⟩
 ·rintro a w ⟨ap,rfl,aq,ar,bT,f,m,bU⟩
  refine Ae (Ab f Z λa f=>Ac f Z λa f=>Aa (Ar ?_))
  obtain rfl:=sj hd
  exact⟨[ar],f.g Z,f.d,_,[],(gt al bT),m,_,Z,Z,bU⟩
theorem Wk.b0 {aa ab v1:Value}{ac ad:LL}{x1:LI}(m:Mem W G w (H))(ae:R2 G aa ac)(af:R2 G ab ad)(h1:R1 G v1 x1){y:Int}(hd:D.b0 ac ad x1=some y):
  Calls prog 101 #[(.agg #[aa,ab]),v1] w (Res W G H (λ_ Ho v=>Ho=[]∧v=(iv y))):=by
 refine Au (args:=[(.agg #[aa,ab]),v1]) (N:=58) [.tmp 4] func101 Z Z (lb Z) Z λa f=> ?_
 unfold D.b0 at hd
 refine Ae (A3 (cs:=[aa,ab]) m f Z Z Z λag w a m f=>Ac f Z λa f=>Aa (Ah (Ae (Ab f Z λa f=>AN underlying35 f Z Z h1 λa f=>Ai f Z Z Bf λa f=>Aa ?_))))
 rcases Ag hd with⟨ah,hd⟩|⟨ah,hd⟩
 ·refine Am f Z ah (Ae (Ac f Z λa f=>Aa (Ar (have m:=m.dp 1;?_))))
  obtain rfl:=sj hd
  exact⟨[iv 0],f.g Z,f.d,_,[],gr,m,Z,Z⟩
 ·refine Ak f Z ah (An (Ae (Ab f Z λa f=>Bd hd λai aj hd=>AX T35 f Z Z Z h1 aj λak al a am an f=> ?_)))
  subst an
  refine Aw m Pl2 f Z Z am λa f=>AO (R:=R0) (xs:=([ai]:LI)) (RI.one _) m T35 f Z Z Z (by decide) (All2.cons Z (All2.nil _)) λao ap w a m aq f=>Ac f Z λa f=>Aa (Ah (Ae (Ac f Z λa f=>Aa (Bd hd λar au hd=> ?_))))
  refine AL (λa w=>∃av:LI,av=ar∧∃(aw:GH) (ax:Value) (ay:Itm),GLe G aw∧Fr a 58 [(5,ax)]∧Mem W aw w (ay::H)∧Ow R0 2 aw ay ax av) ?_ ?_
  ·refine Al (have m:=m.fr 1;AM (λaz a w=>∃aA:LI,∃aB:Int,(aA,aB)=az∧∃(aC:GH) (aD:Value) (aE:Itm),GLe G aC∧Fr a 58 [(1,v1),(2,pb ag),(5,aD),(6,iv aB)]∧Mem W aC w (ib ag 32 [aa,ab]::aE::H)∧Ow R0 2 aC aE aD aA) au ⟨_,_,Z,_,ap,ao,gr,f.k Z,m,aq⟩ ?_)
   clear au f m
   rintro az aF aG aH a w ⟨aA,aB,rfl,aC,aD,aE,aI,f,m,aJ⟩
   refine have h1:=rd1 aI h1;have ae:=rd2 aI ae;have af:=rd2 aI af;Ah (Ae (Ab f Z λa f=>Ab f Z λa f=>BH 1 m aJ Z underlying35 f Z Z λa f=>Ai f Z Z AP λa f=>Aa ?_))
   rcases Ag aG with⟨aK,aG⟩|⟨aK,aG⟩
   ·refine Am f Z aK (An (Ah (Al (Ah (Bg 7 AV (by kernel_rfl) m (Bc (i:=0) (ds:=[aa,ab]) 7 0 DH Z Z Z Z (by kernel_rfl) Z f Z Z Z λa f=>As 1 7 Z f Z λa f=>As 2 7 Z f Z λa f=>Bd aG λaL aM aG=>DD 3 7 1 m aJ T35 aM Z f Z Z λaN a aO f=>Ew 4 7 1 aJ Pl2 aO aM Z f Z λaP a aQ f=> ?_))))))
    subst aQ
    refine Bw 5 Z λaR w aS m aT aT=>have h1:=rd1 aS h1;have ae:=rd2 aS ae;have af:=rd2 aS af;have aJ:=od1 aS aJ;Bd aG λaU aV aG=>A9 f Z call131 (Wk.K0 m ae af aV) λaW aX aY w aZ m a0 a f=> ?_
    obtain⟨a1,rfl,rfl,a2⟩:=a0
    refine have h1:=rd1 aZ h1;have aJ:=od1 aZ aJ;Aa (aT aX [] _ _ aZ m (q_p 6 7 Z f (λ_=>Bq (f.e Z)) λa f=>A4 λa3 w a4 m=>have h1:=rd1 a4 h1;have a2:=rd1 a4 a2;have aJ:=od1 a4 aJ;AF (Ac f Z λa f=>Aa (Bd aG λa5 a6 aG=> ?_))))
    refine AL (λa w=>∃a7:LI,a7=a5∧∃(a8:GH) (a9:Value) (ba:Itm),GLe a3 a8∧Fr a 58 [(1,v1),(2,pb ag),(5,a9),(6,iv aB)]∧Mem W a8 w (ib ag 32 [aa,ab]::ba::H)∧Ow R0 2 a8 ba a9 a7) ?_ ?_
    ·refine Al (AM (λbb a w=>∃bc:LI,∃bd:Int,(bc,bd)=bb∧∃(be:GH) (bf:Value) (bg:Itm),GLe a3 be∧Fr a 58 [(1,v1),(2,pb ag),(5,bf),(6,iv aB),(7,a1),(8,iv bd)]∧Mem W be w (ib ag 32 [aa,ab]::bg::H)∧Ow R0 2 be bg bf bc) a6 ⟨_,_,Z,_,aD,aE,gr,f.k Z,m,aJ⟩ ?_)
     clear a6 f m
     rintro bb bh bi bj a w ⟨bc,bd,rfl,be,bf,bg,bk,f,m,bl⟩
     refine have h1:=rd1 bk h1;have a2:=rd1 bk a2;Ah (Ae (Ab f Z λa f=>Ab f Z λa f=>AN underlying35 f Z Z a2 λa f=>Ai f Z Z AP λa f=>Aa ?_))
     rcases Ag bi with⟨bm,bi⟩|⟨bm,bi⟩
     ·refine Am f Z bm (An (Ah (Al (Ae (Ab f Z λa f=>Ab f Z λa f=>Ab f Z λa f=>Bd bi λbn bo bi=>AX T35 f Z Z Z a2 bo λbp bq a br bs f=> ?_)))))
      subst bs
      refine Aw m Pl2 f Z Z br λa f=>Bd bi λbt bu bi=>A2 f Z call27 (Wk.f m h1 bu) λbv w bw m a f=>have a2:=rd1 bw a2;have bl:=od1 bw bl;Ab f Z λa f=>Bd bi λbx bz bi=> ?_
      refine Bk 8 (λa w=>∃bA,GLe bv bA∧Mem W bA w (ib ag 32 [aa,ab]::bg::H)∧Fr a 58 [(1,v1),(2,pb ag),(5,bf),(6,iv aB),(7,a1),(8,iv bd),(31,(.bool (decide (bd<(aU.length:Int))))),(34,v1),(35,a1),(36,iv bd),(37,bp),(38,iv bn),(39,(.bool bt)),(40,(.bool bt)),(48,(.bool bx))]) ?_ ?_
      ·rcases Ag bz with⟨bB,bz⟩|⟨bB,bz⟩
       ·refine Ap f bB (Ab f Z λa f=>Ap f bB (Ab f Z λa f=>Ap f bB (Ab f Z λa f=>Ap f bB (Bd bz λbC bD bz=>AX T35 f Z Z Z a2 bD λbE bF a bG bH f=> ?_))))
        subst bH
        refine Ap f bB (Aw m Pl2 f Z Z bG λa f=>Ap f bB (Bd bz λbI bJ bz=>A9 f Z call27 (Ow.lendCall (RI.mono _) 1 bl m Z (λbK bL m bM=>Wk.f m bM bJ) (λ_ _ _ _ h=>h)) λbN bO bP w bQ m bR a f=> ?_))
        obtain⟨rfl,rfl⟩:=bR
        refine Ap f bB (l_o f (Bj (f.e Z)) λa f=>l_o f (AK (f.e Z) bB (f.e Z)) λa f=> ?_)
        obtain rfl:=sj bz
        exact⟨_,bQ,m,f.k Z⟩
       ·refine Aq f bB λa f=>Aq f bB λa f=>Aq f bB λa f=>Aq f bB λa f=>Aq f bB λa f=>Aq f bB λa f=>Aq f bB λa f=>l_o f (AI (f.e Z) bB (f.e Z)) λa f=> ?_
        obtain rfl:=sj bz
        exact⟨_,gr,m,f.k Z⟩
      ·rintro a w ⟨bA,bS,m,f⟩
       refine have a2:=rd1 bS a2;have bl:=od1 bS bl;Aa ?_
       rcases Ag bi with⟨bT,bi⟩|⟨bT,bi⟩
       ·refine Am f Z bT (Aj (Ab f Z λa f=>Ab f Z λa f=>Ab f Z λa f=>Bd bi λbU bV bi=>AX T35 f Z Z Z a2 bV λbW bX a bY bZ f=> ?_))
        subst bZ
        refine Aw m Pl2 f Z Z bY λa f=>AO (R:=R0) (xs:=([bU]:LI)) (RI.one _) m T35 f Z Z Z (by decide) (All2.cons Z (All2.nil _)) λb0 b1 w a m b2 f=>Bd bi λb3 b4 bi=>A6 (RI.one _) 2 m bl Z T35 Z (by decide) f Z Z Z (Ow.src (j:=0) b2 m Z) b4 λb5 b6 w a m b7 f=>Ac f Z λa f=>Aa (Aj (Ab f Z λa f=>Ai f Z Z AB λa f=>Ac f Z λa f=>Aa (have m:=m.fr 2;have m:=m.fr 2;have m:=m.eraseAt 2;?_)))
        obtain rfl:=sj bi
        exact⟨_,Z,_,_,Z,_,b6,b5,(gt bk (gt bw bS)),f.k Z,m,b7⟩
       ·refine Ak f Z bT (An (Aj (Ab f Z λa f=>Ai f Z Z AB λa f=>Ac f Z λa f=>Aa ?_)))
        obtain rfl:=sj bi
        exact⟨_,Z,_,_,Z,_,bf,bg,(gt bk (gt bw bS)),f.k Z,m,bl⟩
     ·refine Ak f Z bm (AE Z ?_)
      obtain rfl:=sj bi
      obtain rfl:=bj _ rfl
      exact⟨_,Z,_,bf,bg,bk,f.k Z,m,bl⟩
    ·rintro a w ⟨a7,rfl,a8,a9,ba,b8,f,m,b9⟩
     refine Aj (Ab f Z λa f=>Ai f Z Z AB λa f=>Ac f Z λa f=>Aa ?_)
     obtain rfl:=sj aG
     exact⟨_,Z,_,_,Z,_,a9,ba,(gt aI (gt aS (gt aZ (gt a4 b8)))),f.k Z,m,b9⟩
   ·refine Ak f Z aK (AE Z (have m:=m.fr 1;have m:=m.eraseAt 1;?_))
    obtain rfl:=sj aG
    obtain rfl:=aH _ rfl
    exact⟨_,Z,_,aD,aE,aI,f.k Z,m,aJ⟩
  ·rintro a w ⟨av,rfl,aw,ax,ay,ca,f,m,cb⟩
   refine Ae (Ab f Z λa f=>BH 0 m cb Z underlying35 f Z Z λa f=>Ac f Z λa f=>Aa (Ar (have m:=m.dp 1;?_)))
   obtain rfl:=sj hd
   exact⟨[(iv (av.length:Int))],f.g Z,f.d,_,[],ca,m,Z,Z⟩
theorem Wk.C1 {aa ab:Value}{ac ad:LL}(m:Mem W G w (H))(ae:R2 G aa ac)(af:R2 G ab ad){y:Bool}(hd:D.C1 ac ad=some y):
  Calls prog 97 #[(.agg #[aa,ab])] w (Res W G H (λ_ Ho v=>Ho=[]∧v=(.bool y))):=by
 refine Au (args:=[(.agg #[aa,ab])]) (N:=27) [.tmp 2] func97 Z Z (lb Z) Z λa f=> ?_
 unfold D.C1 at hd
 refine Ae (A3 (cs:=[aa,ab]) m f Z Z Z λag w a m f=>Ac f Z λa f=>Aa (Ah (Bg 25 AV (by kernel_rfl) m (Bc (i:=0) (ds:=[aa,ab]) 25 0 DH Z Z Z Z (by kernel_rfl) Z f Z Z Z λa f=>Bd hd λah ai hd=>B4 (i:=1) 25 Z (by kernel_rfl) Z f Z Z Z call128 (λ_ _ w aj m=>Wk.V0 m (rd2 aj ae) (rd2 aj af) ai) λa f=>As 2 25 Z f Z λa f=>CW (fuel':=13) (listed':= #[true,true,true,true,true,true,true,true,true,true,true,true,false,false,false,false,false,false,false,false,false,false,false,false,false]) (λa=>Fr a 27 [(0,(.agg #[aa,ab])),(1,pb ag),(3,(.agg #[aa,ab])),(4,(.bool ah)),(5,(.bool ah)),(14,(.bool (ah&&((ad.length:Int)==(i64.wrap ((ac.length:Int)-1))))))]) ?_ ?_))))
 ·intro a f
  refine As 12 25 Z f Z λa f=> ?_
  rcases Ag hd with⟨ak,hd⟩|⟨ak,hd⟩
  ·refine Bc (i:=13) (ds:=[aa,ab]) 25 0 DH Z Z Z Z (by kernel_rfl) Z f (Bs f Z Z Z ak) Z Z λa f=>Br (hw:=wo f ak) 14 25 underlying32 Z sizeOf27 Z f Z λa f=>Bo (hw:=wo f ak) 15 25 0 AW Z Z Z f Z λa f=>DR (i:=16) 25 underlying27 ae Z (by kernel_rfl) Z f (Bs f Z Z Z ak) Z Z λa f=>Br (hw:=wo f ak) 19 25 underlying32 Z sizeOf27 Z f Z λa f=>Bo (hw:=wo f ak) 20 25 0 AW Z Z Z f Z λa f=>DR (i:=21) 25 underlying27 ae Z (by kernel_rfl) Z f (Bs f Z Z Z ak) Z Z λa f=>Bw 17 Z λal w am m an an=>have ae:=rd2 am ae;have af:=rd2 am af;Ap f ak (Bd hd λao ap hd=>BK f Z call129 (Wk.T0 m ap) λaq ar au w av m aw a f=>have ae:=rd2 av ae;have af:=rd2 av af;Aa (an au [ar] _ _ av m (Bw 18 Z λax w ay m az az=>have ae:=rd2 ay ae;have af:=rd2 ay af;have aw:=od1 ay aw;Ap f ak (Bd hd λaA aB hd=> ?_))))
   refine A9 f Z call101 (Ow.lendCall (RI.mono _) 0 aw m Z (λaC aD m aE=>Wk.b0 m (rd2 aD ae) (rd2 aD af) aE aB) (λ_ _ _ _ h=>h)) λaF aG aH w aI m aJ a f=> ?_
   obtain⟨rfl,rfl⟩:=aJ
   refine Aa (az aG [ar] _ _ aI m (q_p (hw:=wo f ak) 22 25 Z f (λ_=>BB (f.e Z) (f.e Z) Bf) λa f=>q_p 23 25 Z f (λ_=>AK (f.e Z) ak (f.e Z)) λa f=>q_p 24 25 Z f (λ_=>Bq (f.e Z)) λa f=>A4 λaK w aL m=>Aa (Ar (have m:=m.dp 2;?_))))
   obtain rfl:=sj hd
   exact⟨[(.bool (aA==(ac.length:Int)))],f.g Z,f.d,_,[],(gt am (gt av (gt ay (gt aI aL)))),m,Z,Z⟩
  ·refine AA 13 25 Z f ak λa f=>AA 14 25 Z f ak λa f=>AA 15 25 Z f ak λa f=>AA 16 25 Z f ak λa f=>AA 17 25 Z f ak λa f=>AA 18 25 Z f ak λa f=>AA 19 25 Z f ak λa f=>AA 20 25 Z f ak λa f=>AA 21 25 Z f ak λa f=>AA 22 25 Z f ak λa f=>q_p 23 25 Z f (λ_=>AI (f.e Z) ak (f.e Z)) λa f=>q_p 24 25 Z f (λ_=>Bq (f.e Z)) λa f=>A4 λaM w aN m=>Aa (Ar (have m:=m.dp 1;?_))
   obtain rfl:=sj hd
   exact⟨[(.bool false)],f.g Z,f.d,_,[],aN,m,Z,Z⟩
 ·intro aO
  rcases Bool.eq_false_or_eq_true ah with aP|aP
  ·exact Br (hw:=wo f aP) 3 25 underlying32 Z sizeOf27 Z f Z λa f=>Bo (hw:=wo f aP) 4 25 0 AW Z Z Z f Z λa f=>DR (i:=5) 25 underlying27 af Z (by kernel_rfl) Z f (Bs f Z Z Z aP) Z Z λa f=>Br (hw:=wo f aP) 6 25 underlying32 Z sizeOf27 Z f Z λa f=>Bo (hw:=wo f aP) 7 25 0 AW Z Z Z f Z λa f=>DR (i:=8) 25 underlying27 ae Z (by kernel_rfl) Z f (Bs f Z Z Z aP) Z Z λa f=>q_p (hw:=wo f aP) 9 25 Z f (λ_=>BB (f.e Z) (f.e Z) CA) λa f=>q_p (hw:=wo f aP) 10 25 Z f (λ_=>BB (f.e Z) (f.e Z) Bf) λa f=>q_p 11 25 Z f (λ_=>AK (f.e Z) aP (f.e Z)) λa f=>aO _ (f.weak ⟨Z,Z,Z,Z,Z,by rw[aP];rfl,trivial⟩)
  ·exact AA 3 25 Z f aP λa f=>AA 4 25 Z f aP λa f=>AA 5 25 Z f aP λa f=>AA 6 25 Z f aP λa f=>AA 7 25 Z f aP λa f=>AA 8 25 Z f aP λa f=>AA 9 25 Z f aP λa f=>AA 10 25 Z f aP λa f=>q_p 11 25 Z f (λ_=>AI (f.e Z) aP (f.e Z)) λa f=>aO _ (f.weak ⟨Z,Z,Z,Z,Z,by rw[aP];rfl,trivial⟩)
theorem Wk.o0 {aa:Value}{ab:LL}(m:Mem W G w (H))(ac:R2 G aa ab){y:(LL)}(hd:D.o0 ab=some y):
  Calls prog 98 #[(.agg #[aa])] w (Res W G H (λG' Ho v=>∃r0:Value,∃i0:Itm,Ho=[i0]∧r0=v∧Ow R1 35 G' i0 r0 y)):=by
 refine Au (args:=[(.agg #[aa])]) (N:=47) [.tmp 2] func98 Z Z (lb Z) Z λa f=> ?_
 unfold D.o0 at hd
 refine Ae (A3 (cs:=[aa]) m f Z Z Z λad w a m f=>Ac f Z λa f=>AF (AO (R:=R1) (xs:=([]:LL)) (RSl.one _) m T27 f Z Z Z (by decide) (All2.nil _) λae af w a m ag f=>Ac f Z λa f=>Aa (Ah (Ae (Ac f Z λa f=>Aa (Bd hd λah ai hd=> ?_))))))
 refine AL (λa w=>∃aj:LL,aj=ah∧∃(ak:GH) (al:Value) (am:Itm),GLe G ak∧Fr a 47 [(3,al)]∧Mem W ak w (am::H)∧Ow R1 35 ak am al aj) ?_ ?_
 ·refine Al (have m:=m.fr 1;AM (λan a w=>∃ao:LL,∃ap:Int,(ao,ap)=an∧∃(aq:GH) (ar:Value) (au:Itm),GLe G aq∧Fr a 47 [(1,pb ad),(3,ar),(4,iv ap)]∧Mem W aq w (ib ad 29 [aa]::au::H)∧Ow R1 35 aq au ar ao) ai ⟨_,_,Z,_,af,ae,gr,f.k Z,m,ag⟩ ?_)
  clear ai f m
  rintro an av aw ax a w ⟨ao,ap,rfl,aq,ar,au,ay,f,m,az⟩
  refine have ac:=rd2 ay ac;Ah (Ae (Ab f Z λa f=>Ay 0 0 (ds:=[aa]) m Bh f Z Z Z Z Z λa f=>Bd aw λaA aB aw=>A2 f Z call83 (Wk.d m ac aB) λaC w aD m a f=>have ac:=rd2 aD ac;have az:=od3 aD az;Ai f Z Z AP λa f=>Aa ?_))
  rcases Ag aw with⟨aE,aw⟩|⟨aE,aw⟩
  ·refine Am f Z aE (An (Ah (Al (Ae (Ac f Z λa f=>Aa (Bd aw λaF aG aw=> ?_))))))
   refine AL (λa w=>∃aH:LL,aH=aF∧∃(aI:GH) (aJ:Value) (aK:Itm),GLe aC aI∧Fr a 47 [(1,pb ad),(3,aJ),(4,iv ap)]∧Mem W aI w (ib ad 29 [aa]::aK::H)∧Ow R1 35 aI aK aJ aH) ?_ ?_
   ·refine Al (AM (λaL a w=>∃aM:LL,∃aN:Int,(aM,aN)=aL∧∃(aO:GH) (aP:Value) (aQ:Itm),GLe aC aO∧Fr a 47 [(1,pb ad),(3,aP),(4,iv ap),(5,iv aN)]∧Mem W aO w (ib ad 29 [aa]::aQ::H)∧Ow R1 35 aO aQ aP aM) aG ⟨_,_,Z,_,ar,au,gr,f.k Z,m,az⟩ ?_)
    clear aG f m
    rintro aL aR aS aT a w ⟨aM,aN,rfl,aO,aP,aQ,aU,f,m,aV⟩
    refine have ac:=rd2 aU ac;Ah (Ae (Ab f Z λa f=>AQ underlying29 Z sizeOf27 f Z λa f=>Ao 0 0 m AW f Z Z Z Z λa f=>Ab f Z λa f=>Bd aS λaW aX aS=>AX T27 f Z Z Z ac aX λaY aZ a a0 a1 f=>Aw m AY f Z Z a0 λa f=>AN underlying35 f Z Z a1 λa f=>Ai f Z Z AP λa f=>Aa ?_))
    rcases Ag aS with⟨a2,aS⟩|⟨a2,aS⟩
    ·refine Am f Z a2 (An (Ah (Al (Ae (AQ underlying29 Z sizeOf27 f Z λa f=>Ao 0 0 m AW f Z Z Z Z λa f=>Ab f Z λa f=>Bd aS λa3 a4 aS=>AX T27 f Z Z Z ac a4 λa5 a6 a a7 a8 f=>Aw m AY f Z Z a7 λa f=>Ab f Z λa f=>Bd aS λa9 ba aS=>AX T35 f Z Z Z a8 ba λbb bc a bd be f=> ?_)))))
     subst be
     refine Aw m Pl2 f Z Z bd λa f=>Ab f Z λa f=>Ai f Z Z CK λa f=>Aa ?_
     rcases Ag aS with⟨bf,aS⟩|⟨bf,aS⟩
     ·refine Am f Z bf (Aj (Ab f Z λa f=>Ab f Z λa f=>AQ underlying29 Z sizeOf27 f Z λa f=>Ao 0 0 m AW f Z Z Z Z λa f=>Ab f Z λa f=>Bd aS λbg bh aS=>AX T27 f Z Z Z ac bh λbi bj a bk bl f=>Aw m AY f Z Z bk λa f=>Ab f Z λa f=>Bd aS λbm bn aS=>AX T35 f Z Z Z bl bn λbo bp a bq br f=> ?_))
      subst br
      refine Aw m Pl2 f Z Z bq λa f=>AO (R:=R0) (xs:=([ap,bm]:LI)) (RI.one _) m T35 f Z Z Z (by decide) (All2.cons Z (All2.cons Z (All2.nil _))) λbs bt w a m bu f=> ?_
      obtain⟨bv,bw,m,bx⟩:=Ow.stamp (RI.mono _) bu m
      refine have aV:=od3 bw aV;AO (R:=R1) (xs:=([([ap,bm]:LI)]:LL)) (RSl.one _) m T27 f Z Z Z (by decide) (All2.cons bx (All2.nil _)) λbz bA w a m bB f=>Bd aS λbC bD aS=>A6 (RSl.one _) 2 m aV Z T27 Z (by decide) f Z Z Z (Ow.src (j:=0) bB m Z) bD λbE bF w a m bG f=>Ac f Z λa f=>Aa (Aj (Ab f Z λa f=>Ai f Z Z AB λa f=>Ac f Z λa f=>Aa (have m:=m.fr 2;have m:=m.fr 2;have m:=m.eraseAt 2;?_)))
      obtain rfl:=sj aS
      exact⟨_,Z,_,_,Z,_,bF,bE,(gt aU bw),f.k Z,m,bG⟩
     ·refine Ak f Z bf (An (Aj (Ab f Z λa f=>Ai f Z Z AB λa f=>Ac f Z λa f=>Aa ?_)))
      obtain rfl:=sj aS
      exact⟨_,Z,_,_,Z,_,aP,aQ,aU,f.k Z,m,aV⟩
    ·refine Ak f Z a2 (AE Z ?_)
     obtain rfl:=sj aS
     obtain rfl:=aT _ rfl
     exact⟨_,Z,_,aP,aQ,aU,f.k Z,m,aV⟩
   ·rintro a w ⟨aH,rfl,aI,aJ,aK,bH,f,m,bI⟩
    refine Aj (Ab f Z λa f=>Ai f Z Z AB λa f=>Ac f Z λa f=>Aa ?_)
    obtain rfl:=sj aw
    exact⟨_,Z,_,_,Z,_,aJ,aK,(gt ay (gt aD bH)),f.k Z,m,bI⟩
  ·refine Ak f Z aE (AE Z (have m:=m.fr 1;have m:=m.eraseAt 1;?_))
   obtain rfl:=sj aw
   obtain rfl:=ax _ rfl
   exact⟨_,Z,_,ar,au,(gt ay aD),f.k Z,m,az⟩
 ·rintro a w ⟨aj,rfl,ak,al,am,bJ,f,m,bK⟩
  refine Ae (Ab f Z λa f=>Ac f Z λa f=>Aa (Ar ?_))
  obtain rfl:=sj hd
  exact⟨[al],f.g Z,f.d,_,[am],bJ,m,_,_,Z,Z,bK⟩
theorem Wk.r1 {v0 v1:Value}{x0 x1:LI}(m:Mem W G w (H))(h0:R1 G v0 x0)(h1:R1 G v1 x1){y:(LI)}(hd:D.r1 x0 x1=some y):
  Calls prog 137 #[v0,v1] w (Res W G H (λG' Ho v=>∃r0:Value,∃i0:Itm,Ho=[i0]∧r0=v∧Ow R0 2 G' i0 r0 y)):=by
 refine Au (args:=[v0,v1]) (N:=28) [.tmp 4] func137 Z Z (lb Z) Z λa f=> ?_
 unfold D.r1 at hd
 refine Ae (Ac f Z λa f=>AF (AO (R:=R0) (xs:=([]:LI)) (RI.one _) m T35 f Z Z Z (by decide) (All2.nil _) λaa ab w a m ac f=>Ac f Z λa f=>Aa (Ah (Ae (Ac f Z λa f=>Aa (Bd hd λad ae hd=> ?_))))))
 refine AL (λa w=>∃af:LI,af=ad∧∃(ag:GH) (ah:Value) (ai:Itm),GLe G ag∧Fr a 28 [(5,ah)]∧Mem W ag w (ai::H)∧Ow R0 2 ag ai ah af) ?_ ?_
 ·refine Al (AM (λaj a w=>∃ak:LI,∃al:Int,(ak,al)=aj∧∃(am:GH) (an:Value) (ao:Itm),GLe G am∧Fr a 28 [(0,v0),(1,v1),(5,an),(6,iv al)]∧Mem W am w (ao::H)∧Ow R0 2 am ao an ak) ae ⟨_,_,Z,_,ab,aa,gr,f.k Z,m,ac⟩ ?_)
  clear ae f m
  rintro aj ap aq ar a w ⟨ak,al,rfl,am,an,ao,au,f,m,av⟩
  refine have h0:=rd1 au h0;have h1:=rd1 au h1;Ah (Ae (Ab f Z λa f=>Ab f Z λa f=>AN underlying35 f Z Z h0 λa f=>Ai f Z Z AP λa f=>Aa ?_))
  rcases Ag aq with⟨aw,aq⟩|⟨aw,aq⟩
  ·refine Am f Z aw (An (Ah (Al (Ae (Ab f Z λa f=>Ab f Z λa f=>Ab f Z λa f=>Bd aq λax ay aq=>AX T35 f Z Z Z h0 ay λaz aA a aB aC f=> ?_)))))
   subst aC
   refine Aw m Pl2 f Z Z aB λa f=>Bd aq λaD aE aq=>A2 f Z call27 (Wk.f m h1 aE) λaF w aG m a f=>have h0:=rd1 aG h0;have av:=od1 aG av;Aa ?_
   rcases Ag aq with⟨aH,aq⟩|⟨aH,aq⟩
   ·refine Am f Z aH (Aj (Ab f Z λa f=>Ab f Z λa f=>Ab f Z λa f=>Bd aq λaI aJ aq=>AX T35 f Z Z Z h0 aJ λaK aL a aM aN f=> ?_))
    subst aN
    refine Aw m Pl2 f Z Z aM λa f=>AO (R:=R0) (xs:=([aI]:LI)) (RI.one _) m T35 f Z Z Z (by decide) (All2.cons Z (All2.nil _)) λaO aP w a m aQ f=>Bd aq λaR aS aq=>A6 (RI.one _) 1 m av Z T35 Z (by decide) f Z Z Z (Ow.src (j:=0) aQ m Z) aS λaT aU w a m aV f=>Ac f Z λa f=>Aa (Aj (Ab f Z λa f=>Ai f Z Z AB λa f=>Ac f Z λa f=>Aa (have m:=m.fr 1;have m:=m.eraseAt 1;?_)))
    obtain rfl:=sj aq
    exact⟨_,Z,_,_,Z,_,aU,aT,(gt au aG),f.k Z,m,aV⟩
   ·refine Ak f Z aH (An (Aj (Ab f Z λa f=>Ai f Z Z AB λa f=>Ac f Z λa f=>Aa ?_)))
    obtain rfl:=sj aq
    exact⟨_,Z,_,_,Z,_,an,ao,(gt au aG),f.k Z,m,av⟩
  ·refine Ak f Z aw (AE Z ?_)
   obtain rfl:=sj aq
   obtain rfl:=ar _ rfl
   exact⟨_,Z,_,an,ao,au,f.k Z,m,av⟩
 ·rintro a w ⟨af,rfl,ag,ah,ai,aW,f,m,aX⟩
  refine Ae (Ab f Z λa f=>Ac f Z λa f=>Aa (Ar ?_))
  obtain rfl:=sj hd
  exact⟨[ah],f.g Z,f.d,_,[ai],aW,m,_,_,Z,Z,aX⟩
theorem Wk.g1 {v0 v1:Value}{x0 x1:LI}(m:Mem W G w (H))(h0:R1 G v0 x0)(h1:R1 G v1 x1){y:Bool}(hd:D.g1 x0 x1=some y):
  Calls prog 130 #[v0,v1] w (Res W G H (λ_ Ho v=>Ho=[]∧v=(.bool y))):=by
 refine Au (args:=[v0,v1]) (N:=12) [.tmp 4] func130 Z Z (lb Z) Z λa f=> ?_
 unfold D.g1 at hd
 refine Ae (Ac f Z λa f=>AF (Ab f Z λa f=>Ab f Z λa f=>Bd hd λaa ab hd=>BK f Z call137 (Wk.r1 m h0 h1 ab) λac ad ae w af m ag a f=>have h0:=rd1 af h0;BH 0 m ag Z underlying35 f Z Z λa f=>Ab f Z λa f=>AN underlying35 f Z Z h0 λa f=>Ai f Z Z Bf λa f=>Ac f Z λa f=>Aa (Ar (have m:=m.dp 1;?_))))
 obtain rfl:=sj hd
 exact⟨[(.bool ((aa.length:Int)==(x0.length:Int)))],f.g Z,f.d,_,[],af,m,Z,Z⟩
theorem Wk.f1 {aa ab v1:Value}{ac ad:LL}{x1:LI}(m:Mem W G w (H))(ae:R2 G aa ac)(af:R2 G ab ad)(h1:R1 G v1 x1){y:Bool}(hd:D.f1 ac ad x1=some y):
  Calls prog 99 #[(.agg #[aa,ab]),v1] w (Res W G H (λ_ Ho v=>Ho=[]∧v=(.bool y))):=by
 refine Au (args:=[(.agg #[aa,ab]),v1]) (N:=20) [.tmp 4] func99 Z Z (lb Z) Z λa f=> ?_
 unfold D.f1 at hd
 refine Ae (A3 (cs:=[aa,ab]) m f Z Z Z λag w a m f=>Ac f Z λa f=>Aa (Ah (Ae (Ac f Z λa f=>Aa (Bd hd λah ai hd=> ?_)))))
 refine AL (λa w=>∃q_35':Unit,ah= .inl q_35'∧∃(aj:GH),GLe G aj∧Fr a 20 []∧Mem W aj w (H)) ?_ ?_
 ·refine Al (AM (λak a w=>∃al:Int,al=ak∧∃(am:GH),GLe G am∧Fr a 20 [(1,v1),(2,pb ag),(5,iv al)]∧Mem W am w (ib ag 32 [aa,ab]::H)) ai ⟨_,Z,_,gr,f.k Z,m⟩ ?_)
  clear ai f m
  rintro ak an ao ap a w ⟨al,rfl,am,aq,f,m⟩
  refine have h1:=rd1 aq h1;have ae:=rd2 aq ae;Ah (Ae (Ab f Z λa f=>AQ underlying32 Z sizeOf27 f Z λa f=>Ao 0 0 m AW f Z Z Z Z λa f=>AN underlying27 f Z Z ae λa f=>Ai f Z Z AP λa f=>Aa ?_))
  rcases Ag ao with⟨ar,ao⟩|⟨ar,ao⟩
  ·refine Am f Z ar (An (Ah (Al (Ae (Ab f Z λa f=>AQ underlying32 Z sizeOf27 f Z λa f=>Ao 0 0 m AW f Z Z Z Z λa f=>Ab f Z λa f=>Bd ao λau av ao=>AX T27 f Z Z Z ae av λaw ax a ay az f=>Aw m AY f Z Z ay λa f=>Bd ao λaA aB ao=>A2 f Z call130 (Wk.g1 m h1 az aB) λaC w aD m a f=>Aa ?_)))))
   rcases Ag ao with⟨aE,ao⟩|⟨aE,ao⟩
   ·refine Am f Z aE (Ae (Ac f Z λa f=>Aa (Ar (have m:=m.dp 1;?_))))
    obtain rfl:=sj ao
    obtain rfl:=ap _ rfl
    obtain rfl:=sj hd
    exact⟨[(.bool true)],f.g Z,f.d,_,[],(gt aq aD),m,Z,Z⟩
   ·refine Ak f Z aE (An (Aj (Ab f Z λa f=>Ai f Z Z AB λa f=>Ac f Z λa f=>Aa ?_)))
    obtain rfl:=sj ao
    exact⟨_,Z,_,Z,_,(gt aq aD),f.k Z,m⟩
  ·refine Ak f Z ar (AE Z (have m:=m.dp 1;?_))
   obtain rfl:=sj ao
   obtain rfl:=ap _ rfl
   exact⟨_,Z,_,aq,f.weak trivial,m⟩
 ·rintro a w ⟨_,rfl,aj,aF,f,m⟩
  refine Ae (Ac f Z λa f=>Aa (Ar ?_))
  obtain rfl:=sj hd
  exact⟨[(.bool false)],f.g Z,f.d,_,[],aF,m,Z,Z⟩
theorem Wk.i1 {aa ab:Value}{ac ad:LL}{x1:Int}(m:Mem W G w (H))(ae:R2 G aa ac)(af:R2 G ab ad){y:(LI)}(hd:D.i1 ac ad x1=some y):
  Calls prog 100 #[(.agg #[aa,ab]),iv x1] w (Res W G H (λG' Ho v=>∃r0:Value,∃i0:Itm,Ho=[i0]∧r0=v∧Ow R0 2 G' i0 r0 y)):=by
 refine Au (args:=[(.agg #[aa,ab]),iv x1]) (N:=27) [.tmp 4] func100 Z Z (lb Z) Z λa f=> ?_
 unfold D.i1 at hd
 refine Ae (A3 (cs:=[aa,ab]) m f Z Z Z λag w a m f=>Ac f Z λa f=>AF (AO (R:=R0) (xs:=([]:LI)) (RI.one _) m T35 f Z Z Z (by decide) (All2.nil _) λah ai w a m aj f=>Ac f Z λa f=>Aa (Ah (Ae (Ac f Z λa f=>Aa (Bd hd λak al hd=> ?_))))))
 refine AL (λa w=>∃am:LI,am=ak∧∃(an:GH) (ao:Value) (ap:Itm),GLe G an∧Fr a 27 [(5,ao)]∧Mem W an w (ap::H)∧Ow R0 2 an ap ao am) ?_ ?_
 ·refine Al (have m:=m.fr 1;AM (λaq a w=>∃ar:LI,∃au:Int,(ar,au)=aq∧∃(av:GH) (aw:Value) (ax:Itm),GLe G av∧Fr a 27 [(1,iv x1),(2,pb ag),(5,aw),(6,iv au)]∧Mem W av w (ib ag 32 [aa,ab]::ax::H)∧Ow R0 2 av ax aw ar) al ⟨_,_,Z,_,ai,ah,gr,f.k Z,m,aj⟩ ?_)
  clear al f m
  rintro aq ay az aA a w ⟨ar,au,rfl,av,aw,ax,aB,f,m,aC⟩
  refine have ae:=rd2 aB ae;Ah (Ae (Ab f Z λa f=>AQ underlying32 Z sizeOf27 f Z λa f=>Ao 0 0 m AW f Z Z Z Z λa f=>AN underlying27 f Z Z ae λa f=>Ai f Z Z AP λa f=>Aa ?_))
  rcases Ag az with⟨aD,az⟩|⟨aD,az⟩
  ·refine Am f Z aD (An (Ah (Al (Ae (AQ underlying32 Z sizeOf27 f Z λa f=>Ao 0 0 m AW f Z Z Z Z λa f=>Ab f Z λa f=>Bd az λaE aF az=>AX T27 f Z Z Z ae aF λaG aH a aI aJ f=>Aw m AY f Z Z aI λa f=>Ab f Z λa f=>Bd az λaK aL az=>A2 f Z call27 (Wk.f m aJ aL) λaM w aN m a f=>have aC:=od1 aN aC;Aa ?_)))))
   rcases Ag az with⟨aO,az⟩|⟨aO,az⟩
   ·refine Am f Z aO (Aj (Ab f Z λa f=>Ab f Z λa f=>AO (R:=R0) (xs:=([au]:LI)) (RI.one _) m T35 f Z Z Z (by decide) (All2.cons Z (All2.nil _)) λaP aQ w a m aR f=>Bd az λaS aT az=>A6 (RI.one _) 2 m aC Z T35 Z (by decide) f Z Z Z (Ow.src (j:=0) aR m Z) aT λaU aV w a m aW f=>Ac f Z λa f=>Aa (Aj (Ab f Z λa f=>Ai f Z Z AB λa f=>Ac f Z λa f=>Aa (have m:=m.fr 2;have m:=m.fr 2;have m:=m.eraseAt 2;?_)))))
    obtain rfl:=sj az
    exact⟨_,Z,_,_,Z,_,aV,aU,(gt aB aN),f.k Z,m,aW⟩
   ·refine Ak f Z aO (An (Aj (Ab f Z λa f=>Ai f Z Z AB λa f=>Ac f Z λa f=>Aa ?_)))
    obtain rfl:=sj az
    exact⟨_,Z,_,_,Z,_,aw,ax,(gt aB aN),f.k Z,m,aC⟩
  ·refine Ak f Z aD (AE Z (have m:=m.fr 1;have m:=m.eraseAt 1;?_))
   obtain rfl:=sj az
   obtain rfl:=aA _ rfl
   exact⟨_,Z,_,aw,ax,aB,f.k Z,m,aC⟩
 ·rintro a w ⟨am,rfl,an,ao,ap,aX,f,m,aY⟩
  refine Ae (Ab f Z λa f=>Ac f Z λa f=>Aa (Ar ?_))
  obtain rfl:=sj hd
  exact⟨[ao],f.g Z,f.d,_,[ap],aX,m,_,_,Z,Z,aY⟩
end Go.Proofs.YtljcmdbpfeffcaaGreatDoor
