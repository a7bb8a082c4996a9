/- Parts. -/
import Derived.Test.YtmkcbhidbdggiaaDoorOo3
import Derived.Test.YtmkcbhidbdggiaaDoorProg
import Derived.KernelRfl
set_option linter.unusedVariables false
set_option linter.unusedSimpArgs false
set_option linter.unusedSectionVars false
set_option maxRecDepth 100000
namespace Go.Proofs.YtmkcbhidbdggiaaDoor
open Go Go.Sx
open Go.Proofs.Tryd Go.Proofs.YtmkcbhidbdggiaaDoor.Tryd IntKind
variable {W w : World} {G : GH} {H : List Itm}
theorem Wk.e {aa:Value}{ab:LL}(hW:Cs W)(m:Mem W G w (H))(ac:R2 G aa ab){y:(LL)×Bool}(hd:D.e ab=some y):
  Calls prog 38 #[(.agg #[aa])] w (Res W G H (λG' Ho v=>∃r0:Value,∃i0:Itm,Ho=[i0]∧v= .tuple #[r0,(.bool y.2)]∧Ow2 R0 31 2 G' i0 r0 y.1)):=by
 refine AB (args:=[(.agg #[aa])]) (N:=41) [.tmp 2,.tmp 3] func38 Z Z (lb Z) Z λa f=> ?_
 unfold D.e at hd
 refine Af ?_
 refine BB (cs:=[aa]) m f Z Z Z λad w a m f=>Ac f Z λa f=>Ac f Z λa f=>Aa (Ag (Af ?_))
 refine AW 0 0 (ds:=[aa]) m Bv f Z Z Z Z Z λa f=> ?_
 have⟨ae,af,hd⟩:=bind_some hd
 refine Bk f Z call50 (Wk.h m ac af) λag w ah m a f=> ?_
 have ac:=rd2 ah ac
 refine l_o f (Bn (f.e Z)) λa f=>Aa ?_
 rcases Ae hd with⟨ai,hd⟩|⟨ai,hd⟩
 ·refine Al f Z ai ?_
  refine Af ?_
  refine Ac f Z λa f=>Ac f Z λa f=>Aa ?_
  refine Ax ?_
  obtain⟨aj,m,ak⟩:=Ow2.nil R0 31 2 m
  have m:=m.eraseAt 1
  obtain rfl:=sj hd
  exact⟨[sn,(.bool false)],⟨f.get _ _ Z,f.get _ _ Z,trivial⟩,f.d,_,[aj],ah,m,_,_,Z,Z,ak⟩
 ·refine Aj f Z ai ?_
  refine Am ?_
  refine Af ?_
  refine AW 0 0 (ds:=[aa]) m Bv f Z Z Z Z Z λa f=> ?_
  have⟨al,am,hd⟩:=bind_some hd
  refine A5 f Z call51 (Wk.j m ac am) λan ao ap w aq m ar a f=> ?_
  obtain⟨au,av,rfl,rfl,aw⟩:=ar
  refine Ac f Z λa f=>Aa (Ag (Af ?_))
  refine Ab f Z λa f=>Db 0 m aw Z underlying60 f Z Z λa f=>Ab f Z λa f=>Aa ?_
  have⟨ax,ay,hd⟩:=bind_some hd
  refine AN (λa w=>∃q_297':Unit,ax= .inl q_297'∧∃(az:GH),GLe ao az∧Fr a 41 []∧Mem W az w (H)) ?_ ?_
  ·refine Ak ?_
   have m:=m.eraseAt 1
   refine AI (λaA a w=>∃aB:Int,aB=aA∧∃(aC:GH),GLe ao aC∧Fr a 41 [(4,au),(16,au),(17,(iv (al.length:Int))),(18,(iv aB))]∧Mem W aC w (av::H)) ay ⟨_,Z,_,gr,f.k Z,m⟩ ?_
   clear ay f m
   rintro aA aD aE aF a w ⟨aB,rfl,aC,aG,f,m⟩
   have aw:=od1 aG aw
   refine Af ?_
   refine Ai f Z Z AP λa f=>Aa (Ag ?_)
   rcases Ae aE with⟨aH,aE⟩|⟨aH,aE⟩
   ·refine Al f Z aH ?_
    refine Am ?_
    refine Ag (Ak (Af ?_))
    refine Ab f Z λa f=> ?_
    have⟨aI,aJ,aE⟩:=bind_some aE
    refine Cb 0 m aw Z T60 f Z Z Z aJ λaK a aL f=>B1 0 m aw Z Dj f Z Z aL aJ λaM a aN f=> ?_
    subst aN
    refine Ac f Z λa f=>Ac f Z λa f=>AG ?_
    refine Ab f Z λa f=> ?_
    have⟨aO,aP,aE⟩:=bind_some aE
    refine A5 f Z call54 (Wk.g hW m aP) λaQ aR aS w aT m aU a f=> ?_
    obtain⟨aV,aW,rfl,rfl,aX⟩:=aU
    have aw:=od1 aT aw
    refine Db 0 m aX Z underlying65 f Z Z λa f=>Ab f Z λa f=>Aa ?_
    have⟨aY,aZ,aE⟩:=bind_some aE
    refine AN (λa w=>∃q_515':Unit,aY= .inl q_515'∧∃(a0:GH),GLe aR a0∧Fr a 41 [(4,au),(16,au),(17,(iv (al.length:Int))),(18,(iv aB))]∧Mem W a0 w (av::H)) ?_ ?_
    ·refine Ak ?_
     have m:=m.fr 1
     refine AI (λa1 a w=>∃a2:Int,a2=a1∧∃(a3:GH),GLe aR a3∧Fr a 41 [(4,au),(5,(iv aB)),(16,au),(17,(iv (al.length:Int))),(18,(iv aB)),(24,aV),(25,(iv (aO.length:Int))),(26,(iv a2))]∧Mem W a3 w (av::aW::H)) aZ ⟨_,Z,_,gr,f.k Z,m⟩ ?_
     clear aZ f m
     rintro a1 a4 a5 a6 a w ⟨a2,rfl,a3,a7,f,m⟩
     have aw:=od1 a7 aw
     have aX:=od1 a7 aX
     refine Af ?_
     refine Ai f Z Z AP λa f=>Aa (Ag ?_)
     rcases Ae a5 with⟨a8,a5⟩|⟨a8,a5⟩
     ·refine Al f Z a8 ?_
      refine Am ?_
      refine Ag (Ak (Af ?_))
      have⟨a9,ba,a5⟩:=bind_some a5
      refine Cb 1 m aX Z T65 f Z Z Z ba λbb a bc f=>B1 1 m aX Z Pl3 f Z Z bc ba λbd a be f=> ?_
      subst be
      refine Ac f Z λa f=>AG ?_
      refine Ab f Z λa f=>Ab f Z λa f=> ?_
      have bf:∀w,(Instr.build 99 #[(0,(iv aB)),(1,(iv a9))]).run prog w= .ok (.agg #[(iv aB),(iv a9)]) w:=by intro w;simp[Instr.build,Instr.fill,Ca,B3,BJ,BQ,BE,B9]
      refine CC f Z Z bf λa f=>BP (cs:=[(iv 0),(iv 0)]) zeroValue99 m f Z Z λbg w a m f=>A7 0 0 (ds:=[(iv aB),(iv a9)]) m sizeOf99 f Z Z Z (Ao Z (Ao Z AF)) Z (lb Z) Z λw m=>AG ?_
      refine Ab f Z λa f=>AW 0 0 (ds:=[(iv aB),(iv a9)]) m Bb f Z Z Z Z Z λa f=> ?_
      have⟨bh,bi,a5⟩:=bind_some a5
      refine A5 f Z call98 (Ow.lendCall (RI.mono _) 1 aw m Z (λbj bk m bl=>Wk.A0 hW m bl bi) (λ_ G' _ _ ⟨r0,i0,h1,h2,h3,h4⟩=>⟨r0,i0,h1,h2,Ow2.free (RI.free _) G' h3,h4⟩)) λbm bn bo w bp m bq a f=> ?_
      obtain⟨br,bs,rfl,rfl,bt,bu⟩:=bq
      refine Ac f Z λa f=>AG ?_
      refine Ab f Z λa f=>l_o f (r_nil_neq (f.e Z) (f.e Z) (Ow2.hdr 0 m bt Z) underlying27 bu) λa f=>Aa ?_
      rcases Ae a5 with⟨bv,a5⟩|⟨bv,a5⟩
      ·refine Al f Z bv ?_
       refine Af ?_
       refine Ab f Z λa f=>Ac f Z λa f=>Ac f Z λa f=>Aa ?_
       refine Ax ?_
       have m:=m.eraseAt 3
       have m:=m.eraseAt 2
       have m:=m.eraseAt 1
       obtain rfl:=sj a5
       obtain rfl:=a6 _ rfl
       obtain rfl:=sj aE
       obtain rfl:=aF _ rfl
       obtain rfl:=sj hd
       exact⟨[br,(.bool true)],⟨f.get _ _ Z,f.get _ _ Z,trivial⟩,f.d,_,[bs],(gt ah (gt aq (gt aG (gt aT (gt a7 bp))))),m,_,_,Z,Z,bt⟩
      ·refine Aj f Z bv ?_
       refine Am ?_
       refine Ap ?_
       refine Ai f Z Z Az λa f=>Ab f Z λa f=>Aa ?_
       have m:=m.fr 3
       have m:=m.fr 3
       have m:Mem W bn w (av::aW::bs::H):=m.eraseAt 3
       have m:=m.eraseAt 2
       obtain rfl:=sj a5
       exact⟨_,Z,_,Z,_,(gt a7 bp),f.k Z,m⟩
     ·refine Aj f Z a8 ?_
      refine AE Z ?_
      have m:=m.eraseAt 1
      obtain rfl:=sj a5
      obtain rfl:=a6 _ rfl
      exact⟨_,Z,_,a7,f.k Z,m⟩
    ·rintro a w ⟨_,rfl,a0,bw,f,m⟩
     refine Ap ?_
     refine Ai f Z Z Az λa f=>Ab f Z λa f=>Aa ?_
     obtain rfl:=sj aE
     exact⟨_,Z,_,Z,_,(gt aG (gt aT bw)),f.k Z,m⟩
   ·refine Aj f Z aH ?_
    refine AE Z ?_
    have m:Mem W aC w H:=Mem.drop (H':=[av]) m
    obtain rfl:=sj aE
    obtain rfl:=aF _ rfl
    exact⟨_,Z,_,aG,f.weak trivial,m⟩
  ·rintro a w ⟨_,rfl,az,bx,f,m⟩
   refine Af ?_
   refine Ac f Z λa f=>Ac f Z λa f=>Aa ?_
   refine Ax ?_
   obtain⟨bz,m,bA⟩:=Ow2.nil R0 31 2 m
   obtain rfl:=sj hd
   exact⟨[sn,(.bool false)],⟨f.get _ _ Z,f.get _ _ Z,trivial⟩,f.d,_,[bz],(gt ah (gt aq bx)),m,_,_,Z,Z,bA⟩
theorem Wk.x0 {aa:Value}{ab:LL}(hW:Cs W)(m:Mem W G w (H))(ac:R2 G aa ab){y:Bool}(hd:D.x0 ab=some y):
  Calls prog 39 #[(.agg #[aa])] w (Res W G H (λ_ Ho v=>Ho=[]∧v=(.bool y))):=by
 refine AB (args:=[(.agg #[aa])]) (N:=11) [.tmp 2] func39 Z Z (lb Z) Z λa f=> ?_
 unfold D.x0 at hd
 refine Af ?_
 refine BB (cs:=[aa]) m f Z Z Z λad w a m f=>Ac f Z λa f=>AG ?_
 refine AW 0 0 (ds:=[aa]) m Bv f Z Z Z Z Z λa f=> ?_
 have⟨ae,af,hd⟩:=bind_some hd
 refine Bk f Z call50 (Wk.h m ac af) λag w ah m a f=> ?_
 have ac:=rd2 ah ac
 refine Ab f Z λa f=> ?_
 have⟨ai,aj,hd⟩:=bind_some hd
 refine Bo 5 (λa w=>∃ak,GLe ag ak∧Mem W ak w (ib ad 29 [aa]::H)∧Fr a 11 [(0,(.agg #[aa])),(1,(pb ad)),(3,(.agg #[aa])),(4,(.bool ae)),(5,(.bool ae)),(10,(.bool ai))]) ?_ ?_
 ·rcases Ae aj with⟨al,aj⟩|⟨al,aj⟩
  ·refine Ar f al ?_
   refine AW 0 0 (ds:=[aa]) m Bv f Z Z Z Z Z λa f=>Ar f al ?_
   have⟨am,an,aj⟩:=bind_some aj
   refine A5 f Z call51 (Wk.j m ac an) λao ap aq w ar m au a f=> ?_
   obtain⟨av,aw,rfl,rfl,ax⟩:=au
   refine Ar f al ?_
   have⟨ay,az,aj⟩:=bind_some aj
   refine A5 f Z call93 (Ow.lendCall (RI.mono _) 0 ax m Z (λaA aB m aC=>Wk.M hW m aC az) (λ_ G' _ _ ⟨r0,i0,h1,h2,h3,h4⟩=>⟨r0,i0,h1,h2,Ow.free (RI.free _) G' h3,h4⟩)) λaD aE aF w aG m aH a f=> ?_
   obtain⟨aI,aJ,rfl,rfl,aK,aL⟩:=aH
   refine Ar f al ?_
   refine l_o f (r_nil_neq (f.e Z) (f.e Z) (Ow.hdr 0 m aK Z) underlying60 aL) λa f=>l_o f (AT (f.e Z) al (f.e Z)) λa f=> ?_
   obtain rfl:=sj aj
   have m:=m.fr 2
   have m:=m.eraseAt 2
   have m:=m.eraseAt 1
   exact⟨_,(gt ar aG),m,f.k Z⟩
  ·refine As f al λa f=> ?_
   refine As f al λa f=>As f al λa f=>As f al λa f=>l_o f (AS (f.e Z) al (f.e Z)) λa f=> ?_
   obtain rfl:=sj aj
   exact⟨_,gr,m,f.k Z⟩
 ·rintro a w ⟨ak,aM,m,f⟩
  refine Ac f Z λa f=>Aa ?_
  refine Ax ?_
  have m:Mem W ak w H:=Mem.drop (H':=[ib ad 29 [aa]]) m
  obtain rfl:=sj hd
  exact⟨[(.bool ai)],f.g Z,f.d,_,[],(gt ah aM),m,Z,Z⟩
theorem Wk.P0 {aa:Value}{ab:LL}(m:Mem W G w (H))(ac:R2 G aa ab){y:Int}(hd:D.P0 ab=some y):
  Calls prog 47 #[(.agg #[aa])] w (Res W G H (λ_ Ho v=>Ho=[]∧v=(iv y))):=by
 refine AB (args:=[(.agg #[aa])]) (N:=6) [.tmp 2] func47 Z Z (lb Z) Z λa f=> ?_
 unfold D.P0 at hd
 refine Af ?_
 refine BB (cs:=[aa]) m f Z Z Z λad w a m f=>Ac f Z λa f=>AG ?_
 refine Bp underlying29 Z sizeOf27 f Z λa f=>AM 0 0 m BL f Z Z Z Z λa f=>A6 underlying27 f Z Z ac λa f=>Ac f Z λa f=>Aa ?_
 refine Ax ?_
 have m:Mem W G w H:=Mem.drop (H':=[ib ad 29 [aa]]) m
 obtain rfl:=sj hd
 exact⟨[(iv (ab.length:Int))],f.g Z,f.d,_,[],gr,m,Z,Z⟩
theorem Wk.d {v0:Value}{x0:LI}{x1:Int}(m:Mem W G w (H))(h0:R1 G v0 x0){y:Bool}(hd:D.d x0 x1=some y):
  Calls prog 115 #[v0,(iv x1)] w (Res W G H (λ_ Ho v=>Ho=[]∧v=(.bool y))):=by
 refine AB (args:=[v0,(iv x1)]) (N:=18) [.tmp 4] func115 Z Z (lb Z) Z λa f=> ?_
 unfold D.d at hd
 refine Af ?_
 refine Ac f Z λa f=>Aa (Ag (Af ?_))
 refine Ac f Z λa f=>Aa ?_
 have⟨aa,ab,hd⟩:=bind_some hd
 refine AN (λa w=>∃q_19':Unit,aa= .inl q_19'∧∃(ac:GH),GLe G ac∧Fr a 18 []∧Mem W ac w (H)) ?_ ?_
 ·refine Ak ?_
  refine AI (λad a w=>∃ae:Int,ae=ad∧∃(af:GH),GLe G af∧Fr a 18 [(0,v0),(1,(iv x1)),(5,(iv ae))]∧Mem W af w (H)) ab ⟨_,Z,_,gr,f.k Z,m⟩ ?_
  clear ab f m
  rintro ad ag ah ai a w ⟨ae,rfl,af,aj,f,m⟩
  have h0:=rd1 aj h0
  refine Ag (Af ?_)
  refine Ab f Z λa f=>Ab f Z λa f=>A6 underlying31 f Z Z h0 λa f=>Ai f Z Z AP λa f=>Aa ?_
  rcases Ae ah with⟨ak,ah⟩|⟨ak,ah⟩
  ·refine Al f Z ak ?_
   refine Am ?_
   refine Ag (Ak (Af ?_))
   refine Ab f Z λa f=>Ab f Z λa f=> ?_
   have⟨al,am,ah⟩:=bind_some ah
   refine Bi T31 f Z Z Z h0 am λan ao a ap aq f=> ?_
   subst aq
   refine AH m Pl2 f Z Z ap λa f=>Ab f Z λa f=>Ai f Z Z BZ λa f=>Aa ?_
   rcases Ae ah with⟨ar,ah⟩|⟨ar,ah⟩
   ·refine Al f Z ar ?_
    refine Af ?_
    refine Ac f Z λa f=>Aa ?_
    refine Ax ?_
    obtain rfl:=sj ah
    obtain rfl:=ai _ rfl
    obtain rfl:=sj hd
    exact⟨[(.bool true)],f.g Z,f.d,_,[],aj,m,Z,Z⟩
   ·refine Aj f Z ar ?_
    refine Am ?_
    refine Ap ?_
    refine Ab f Z λa f=>Ai f Z Z Az λa f=>Ac f Z λa f=>Aa ?_
    obtain rfl:=sj ah
    exact⟨_,Z,_,Z,_,aj,f.k Z,m⟩
  ·refine Aj f Z ak ?_
   refine AE Z ?_
   obtain rfl:=sj ah
   obtain rfl:=ai _ rfl
   exact⟨_,Z,_,aj,f.weak trivial,m⟩
 ·rintro a w ⟨_,rfl,ac,au,f,m⟩
  refine Af ?_
  refine Ac f Z λa f=>Aa ?_
  refine Ax ?_
  obtain rfl:=sj hd
  exact⟨[(.bool false)],f.g Z,f.d,_,[],au,m,Z,Z⟩
theorem Wk.J {aa:Value}{ab:LL}(m:Mem W G w (H))(ac:R2 G aa ab){y:Bool}(hd:D.J ab=some y):
  Calls prog 48 #[(.agg #[aa])] w (Res W G H (λ_ Ho v=>Ho=[]∧v=(.bool y))):=by
 refine AB (args:=[(.agg #[aa])]) (N:=64) [.tmp 2] func48 Z Z (lb Z) Z λa f=> ?_
 unfold D.J at hd
 refine Af ?_
 refine BB (cs:=[aa]) m f Z Z Z λad w a m f=>Ac f Z λa f=>AG ?_
 refine AW 0 0 (ds:=[aa]) m Bv f Z Z Z Z Z λa f=> ?_
 have⟨ae,af,hd⟩:=bind_some hd
 refine Bk f Z call47 (Wk.P0 m ac af) λag w ah m a f=> ?_
 have ac:=rd2 ah ac
 refine Ac f Z λa f=>Aa (Ag (Af ?_))
 refine Ab f Z λa f=> ?_
 have⟨ai,aj,hd⟩:=bind_some hd
 refine Bk f Z call105 (Wk.c m aj) λak w al m a f=> ?_
 have ac:=rd2 al ac
 refine l_o f (Bn (f.e Z)) λa f=>Aa ?_
 rcases Ae hd with⟨am,hd⟩|⟨am,hd⟩
 ·refine Al f Z am ?_
  refine Af ?_
  refine Ac f Z λa f=>Aa ?_
  refine Ax ?_
  have m:Mem W ak w H:=Mem.drop (H':=[ib ad 29 [aa]]) m
  obtain rfl:=sj hd
  exact⟨[(.bool false)],f.g Z,f.d,_,[],(gt ah al),m,Z,Z⟩
 ·refine Aj f Z am ?_
  refine Am ?_
  refine Ag (Af ?_)
  refine Ac f Z λa f=>Aa ?_
  have⟨an,ao,hd⟩:=bind_some hd
  refine AN (λa w=>∃q_138':Unit,an= .inl q_138'∧∃(ap:GH),GLe ak ap∧Fr a 64 [(1,(pb ad)),(3,(iv ae))]∧Mem W ap w (ib ad 29 [aa]::H)) ?_ ?_
  ·refine Ak ?_
   refine AI (λaq a w=>∃ar:Int,ar=aq∧∃(au:GH),GLe ak au∧Fr a 64 [(1,(pb ad)),(3,(iv ae)),(4,(iv ar))]∧Mem W au w (ib ad 29 [aa]::H)) ao ⟨_,Z,_,gr,f.k Z,m⟩ ?_
   clear ao f m
   rintro aq av aw ax a w ⟨ar,rfl,au,ay,f,m⟩
   have ac:=rd2 ay ac
   refine Ag (Af ?_)
   refine Ab f Z λa f=>Ab f Z λa f=>Ai f Z Z AP λa f=>Aa ?_
   rcases Ae aw with⟨az,aw⟩|⟨az,aw⟩
   ·refine Al f Z az ?_
    refine Am ?_
    refine Ag (Ak (Af ?_))
    refine Bp underlying29 Z sizeOf27 f Z λa f=>AM 0 0 m BL f Z Z Z Z λa f=>Ab f Z λa f=> ?_
    have⟨aA,aB,aw⟩:=bind_some aw
    refine Bi T27 f Z Z Z ac aB λaC aD a aE aF f=>AH m Bj f Z Z aE λa f=>Ab f Z λa f=> ?_
    have⟨aG,aH,aw⟩:=bind_some aw
    refine Bk f Z call113 (Wk.x m aF aH) λaI w aJ m a f=> ?_
    have ac:=rd2 aJ ac
    refine l_o f (Bn (f.e Z)) λa f=>Ab f Z λa f=> ?_
    have⟨aK,aL,aw⟩:=bind_some aw
    refine Bo 8 (λa w=>∃aM,GLe aI aM∧Mem W aM w (ib ad 29 [aa]::H)∧Fr a 64 [(1,(pb ad)),(3,(iv ae)),(4,(iv ar)),(14,(.bool (decide (ar<ae)))),(17,(pb ad)),(18,aa),(19,(iv ar)),(20,aC),(21,aD),(22,(iv ae)),(23,(.bool aG)),(24,(.bool (!aG))),(25,(.bool (!aG))),(33,(.bool aK))]) ?_ ?_
    ·rcases Ae aL with⟨aN,aL⟩|⟨aN,aL⟩
     ·refine As f aN λa f=> ?_
      refine As f aN λa f=>As f aN λa f=>As f aN λa f=>As f aN λa f=>As f aN λa f=>As f aN λa f=>l_o f (AT (f.e Z) aN (f.e Z)) λa f=> ?_
      obtain rfl:=sj aL
      exact⟨_,gr,m,f.k Z⟩
     ·refine Ar f aN ?_
      refine Bp underlying29 Z sizeOf27 f Z λa f=>Ar f aN ?_
      refine AM 0 0 m BL f Z Z Z Z λa f=>Ar f aN ?_
      refine Ab f Z λa f=>Ar f aN ?_
      have⟨aO,aP,aL⟩:=bind_some aL
      refine Bi T27 f Z Z Z ac aP λaQ aR a aS aT f=>Ar f aN ?_
      refine AH m Bj f Z Z aS λa f=>Ar f aN ?_
      refine Ab f Z λa f=>Ar f aN ?_
      have⟨aU,aV,aL⟩:=bind_some aL
      refine Bk f Z call115 (Wk.d m aT aV) λaW w aX m a f=>l_o f (AS (f.e Z) aN (f.e Z)) λa f=> ?_
      obtain rfl:=sj aL
      exact⟨_,aX,m,f.k Z⟩
    ·rintro a w ⟨aM,aY,m,f⟩
     refine Aa ?_
     rcases Ae aw with⟨aZ,aw⟩|⟨aZ,aw⟩
     ·refine Al f Z aZ ?_
      refine Af ?_
      refine Ac f Z λa f=>Aa ?_
      refine Ax ?_
      have m:Mem W aM w H:=Mem.drop (H':=[ib ad 29 [aa]]) m
      obtain rfl:=sj aw
      obtain rfl:=ax _ rfl
      obtain rfl:=sj hd
      exact⟨[(.bool false)],f.g Z,f.d,_,[],(gt ah (gt al (gt ay (gt aJ aY)))),m,Z,Z⟩
     ·refine Aj f Z aZ ?_
      refine Am ?_
      refine Ap ?_
      refine Ab f Z λa f=>Ai f Z Z Az λa f=>Ac f Z λa f=>Aa ?_
      obtain rfl:=sj aw
      exact⟨_,Z,_,Z,_,(gt ay (gt aJ aY)),f.k Z,m⟩
   ·refine Aj f Z az ?_
    refine AE Z ?_
    obtain rfl:=sj aw
    obtain rfl:=ax _ rfl
    exact⟨_,Z,_,ay,f.k Z,m⟩
  ·rintro a w ⟨_,rfl,ap,a0,f,m⟩
   have ac:=rd2 a0 ac
   refine Ag (Af ?_)
   refine Ac f Z λa f=>Aa ?_
   have⟨a1,a2,hd⟩:=bind_some hd
   refine AN (λa w=>∃q_545':Unit,a1= .inl q_545'∧∃(a3:GH),GLe ap a3∧Fr a 64 []∧Mem W a3 w (H)) ?_ ?_
   ·refine Ak ?_
    refine AI (λa4 a w=>∃a5:Int,a5=a4∧∃(a6:GH),GLe ap a6∧Fr a 64 [(1,(pb ad)),(3,(iv ae)),(5,(iv a5))]∧Mem W a6 w (ib ad 29 [aa]::H)) a2 ⟨_,Z,_,gr,f.k Z,m⟩ ?_
    clear a2 f m
    rintro a4 a7 a8 a9 a w ⟨a5,rfl,a6,ba,f,m⟩
    have ac:=rd2 ba ac
    refine Ag (Af ?_)
    refine Ab f Z λa f=>Ab f Z λa f=>Ai f Z Z AP λa f=>Aa ?_
    rcases Ae a8 with⟨bb,a8⟩|⟨bb,a8⟩
    ·refine Al f Z bb ?_
     refine Am ?_
     refine Ag (Ak (Af ?_))
     refine Ac f Z λa f=>Aa ?_
     have⟨bc,bd,a8⟩:=bind_some a8
     refine AN (λa w=>∃q_759':Unit,bc= .inl q_759'∧∃(be:GH),GLe a6 be∧Fr a 64 [(1,(pb ad)),(3,(iv ae)),(5,(iv a5))]∧Mem W be w (ib ad 29 [aa]::H)) ?_ ?_
     ·refine Ak ?_
      refine AI (λbf a w=>∃bg:Int,bg=bf∧∃(bh:GH),GLe a6 bh∧Fr a 64 [(1,(pb ad)),(3,(iv ae)),(5,(iv a5)),(6,(iv bg))]∧Mem W bh w (ib ad 29 [aa]::H)) bd ⟨_,Z,_,gr,f.k Z,m⟩ ?_
      clear bd f m
      rintro bf bi bj bk a w ⟨bg,rfl,bh,bl,f,m⟩
      have ac:=rd2 bl ac
      refine Ag (Af ?_)
      refine Ab f Z λa f=>Bp underlying29 Z sizeOf27 f Z λa f=>AM 0 0 m BL f Z Z Z Z λa f=>Ab f Z λa f=> ?_
      have⟨bm,bn,bj⟩:=bind_some bj
      refine Bi T27 f Z Z Z ac bn λbo bp a bq br f=>AH m Bj f Z Z bq λa f=>A6 underlying31 f Z Z br λa f=>Ai f Z Z AP λa f=>Aa ?_
      rcases Ae bj with⟨bs,bj⟩|⟨bs,bj⟩
      ·refine Al f Z bs ?_
       refine Am ?_
       refine Ag (Ak (Ag ?_))
       refine A9 15 AJ (by kernel_rfl) m ?_
       refine Cr 0 15 underlying29 Z sizeOf27 Z f Z λa f=>B7 1 15 0 BL Z Z Z f Z λa f=>Cr 2 15 underlying29 Z sizeOf27 Z f Z λa f=>B7 3 15 0 BL Z Z Z f Z λa f=>Ah 4 15 Z f Z λa f=> ?_
       have⟨bt,bu,bj⟩:=bind_some bj
       refine Bl 5 15 T27 ac bu Z f Z Z λbv bw a bx bz f=>Bm 6 15 Bj bx Z f Z λa f=>Ah 7 15 Z f Z λa f=> ?_
       have⟨bA,bB,bj⟩:=bind_some bj
       refine Bl 8 15 T31 bz bB Z f Z Z λbC bD a bE bF f=> ?_
       subst bF
       refine Bm 9 15 Pl2 bE Z f Z λa f=> ?_
       have⟨bG,bH,bj⟩:=bind_some bj
       refine Bl 10 15 T27 ac bH Z f Z Z λbI bJ a bK bL f=>Bm 11 15 Bj bK Z f Z λa f=>Ah 12 15 Z f Z λa f=> ?_
       have⟨bM,bN,bj⟩:=bind_some bj
       refine B8 (i:=13) 15 Z (by kernel_rfl) Z f Z Z Z call115 (λ_ _ w bO m=>Wk.d m (rd1 bO bL) bN) λa f=>q_p 14 15 Z f (λ_=>Bn (f.e Z)) λa f=>AZ λbP w bQ m=>Aa ?_
       rcases Ae bj with⟨bR,bj⟩|⟨bR,bj⟩
       ·refine Al f Z bR ?_
        refine Af ?_
        refine Ac f Z λa f=>Aa ?_
        refine Ax ?_
        have m:Mem W bP w H:=Mem.drop (H':=[ib ad 29 [aa]]) m
        obtain rfl:=sj bj
        obtain rfl:=bk _ rfl
        obtain rfl:=sj a8
        obtain rfl:=a9 _ rfl
        obtain rfl:=sj hd
        exact⟨[(.bool false)],f.g Z,f.d,_,[],(gt ah (gt al (gt a0 (gt ba (gt bl bQ))))),m,Z,Z⟩
       ·refine Aj f Z bR ?_
        refine Am ?_
        refine Ap ?_
        refine Ab f Z λa f=>Ai f Z Z Az λa f=>Ac f Z λa f=>Aa ?_
        obtain rfl:=sj bj
        exact⟨_,Z,_,Z,_,(gt bl bQ),f.k Z,m⟩
      ·refine Aj f Z bs ?_
       refine AE Z ?_
       obtain rfl:=sj bj
       obtain rfl:=bk _ rfl
       exact⟨_,Z,_,bl,f.k Z,m⟩
     ·rintro a w ⟨_,rfl,be,bS,f,m⟩
      refine Ap ?_
      refine Ab f Z λa f=>Ai f Z Z Az λa f=>Ac f Z λa f=>Aa ?_
      obtain rfl:=sj a8
      exact⟨_,Z,_,Z,_,(gt ba bS),f.k Z,m⟩
    ·refine Aj f Z bb ?_
     refine AE Z ?_
     have m:Mem W a6 w H:=Mem.drop (H':=[ib ad 29 [aa]]) m
     obtain rfl:=sj a8
     obtain rfl:=a9 _ rfl
     exact⟨_,Z,_,ba,f.weak trivial,m⟩
   ·rintro a w ⟨_,rfl,a3,bT,f,m⟩
    refine Af ?_
    refine Ac f Z λa f=>Aa ?_
    refine Ax ?_
    obtain rfl:=sj hd
    exact⟨[(.bool true)],f.g Z,f.d,_,[],(gt ah (gt al (gt a0 bT))),m,Z,Z⟩
theorem Wk.c0 {aa:Value}{ab:LL}(m:Mem W G w (H))(ac:R2 G aa ab){y:Int}(hd:D.c0 ab=some y):
  Calls prog 144 #[(.agg #[aa])] w (Res W G H (λ_ Ho v=>Ho=[]∧v=(iv y))):=by
 refine AB (args:=[(.agg #[aa])]) (N:=21) [.tmp 2] func144 Z Z (lb Z) Z λa f=> ?_
 unfold D.c0 at hd
 refine Af ?_
 refine BB (cs:=[aa]) m f Z Z Z λad w a m f=>Ac f Z λa f=>AG ?_
 refine Ac f Z λa f=>Aa (Ag (Af ?_))
 refine Ac f Z λa f=>Aa ?_
 have⟨ae,af,hd⟩:=bind_some hd
 refine AN (λa w=>∃ag:Int,ag=ae∧∃(ah:GH),GLe G ah∧Fr a 21 [(3,(iv ag))]∧Mem W ah w (H)) ?_ ?_
 ·refine Ak ?_
  refine AI (λai a w=>∃aj:Int,∃ak:Int,(aj,ak)=ai∧∃(al:GH),GLe G al∧Fr a 21 [(1,(pb ad)),(3,(iv aj)),(4,(iv ak))]∧Mem W al w (ib ad 29 [aa]::H)) af ⟨_,_,Z,_,gr,f.k Z,m⟩ ?_
  clear af f m
  rintro ai am an ao a w ⟨aj,ak,rfl,al,ap,f,m⟩
  have ac:=rd2 ap ac
  refine Ag (Af ?_)
  refine Ab f Z λa f=>Bp underlying29 Z sizeOf27 f Z λa f=>AM 0 0 m BL f Z Z Z Z λa f=>A6 underlying27 f Z Z ac λa f=>Ai f Z Z AP λa f=>Aa ?_
  rcases Ae an with⟨aq,an⟩|⟨aq,an⟩
  ·refine Al f Z aq ?_
   refine Am ?_
   refine Ag (Ak (Ap ?_))
   refine Ab f Z λa f=>Bp underlying29 Z sizeOf27 f Z λa f=>AM 0 0 m BL f Z Z Z Z λa f=>Ab f Z λa f=> ?_
   have⟨ar,au,an⟩:=bind_some an
   refine Bi T27 f Z Z Z ac au λav aw a ax ay f=>AH m Bj f Z Z ax λa f=>A6 underlying31 f Z Z ay λa f=>Ai f Z Z Az λa f=>Ac f Z λa f=>Aa (Ap ?_)
   refine Ab f Z λa f=>Ai f Z Z Az λa f=>Ac f Z λa f=>Aa ?_
   obtain rfl:=sj an
   exact⟨_,Z,_,_,Z,_,ap,f.k Z,m⟩
  ·refine Aj f Z aq ?_
   refine AE Z ?_
   have m:Mem W al w H:=Mem.drop (H':=[ib ad 29 [aa]]) m
   obtain rfl:=sj an
   obtain rfl:=ao _ rfl
   exact⟨_,Z,_,ap,f.k Z,m⟩
 ·rintro a w ⟨ag,rfl,ah,az,f,m⟩
  refine Af ?_
  refine Ab f Z λa f=>Ac f Z λa f=>Aa ?_
  refine Ax ?_
  obtain rfl:=sj hd
  exact⟨[(iv ag)],f.g Z,f.d,_,[],az,m,Z,Z⟩
theorem Wk.l0 {aa v1:Value}{ab x1:LL}(m:Mem W G w (H))(ac:R2 G aa ab)(h1:R2 G v1 x1){y:Bool}(hd:D.l0 ab x1=some y):
  Calls prog 99 #[(.agg #[aa]),v1] w (Res W G H (λ_ Ho v=>Ho=[]∧v=(.bool y))):=by
 refine AB (args:=[(.agg #[aa]),v1]) (N:=86) [.tmp 4] func99 Z Z (lb Z) Z λa f=> ?_
 unfold D.l0 at hd
 refine Af ?_
 refine BB (cs:=[aa]) m f Z Z Z λad w a m f=>Ac f Z λa f=>Aa (Ag (Af ?_))
 refine AW 0 0 (ds:=[aa]) m Bv f Z Z Z Z Z λa f=> ?_
 have⟨ae,af,hd⟩:=bind_some hd
 refine Bk f Z call48 (Wk.J m ac af) λag w ah m a f=> ?_
 have ac:=rd2 ah ac
 have h1:=rd2 ah h1
 refine l_o f (Bn (f.e Z)) λa f=>Ab f Z λa f=> ?_
 refine Bo 7 (λa w=>∃ai,GLe ag ai∧Mem W ai w (ib ad 29 [aa]::H)∧Fr a 86 [(0,(.agg #[aa])),(1,v1),(2,(pb ad)),(9,(.agg #[aa])),(10,(.bool ae)),(11,(.bool (!ae))),(12,(.bool (!ae))),(19,(.bool ((!ae)||((x1.length:Int) !=(ab.length:Int)))))]) ?_ ?_
 ·rcases Bool.eq_false_or_eq_true (!ae) with aj|aj
  ·refine As f aj λa f=> ?_
   refine As f aj λa f=>As f aj λa f=>As f aj λa f=>As f aj λa f=>As f aj λa f=>l_o f (AT (f.e Z) aj (f.e Z)) λa f=> ?_
   exact⟨_,gr,m,f.weak ⟨Z,Z,Z,Z,Z,Z,Z,by rw[aj];rfl,trivial⟩⟩
  ·refine Ar f aj ?_
   refine Ab f Z λa f=>Ar f aj ?_
   refine A6 underlying27 f Z Z h1 λa f=>Ar f aj ?_
   refine Bp underlying29 Z sizeOf27 f Z λa f=>Ar f aj ?_
   refine AM 0 0 m BL f Z Z Z Z λa f=>Ar f aj ?_
   refine A6 underlying27 f Z Z ac λa f=>Ar f aj ?_
   refine Ai f Z Z Cy λa f=>l_o f (AS (f.e Z) aj (f.e Z)) λa f=> ?_
   exact⟨_,gr,m,f.weak ⟨Z,Z,Z,Z,Z,Z,Z,by rw[aj];rfl,trivial⟩⟩
 ·rintro a w ⟨ai,ak,m,f⟩
  have ac:=rd2 ak ac
  have h1:=rd2 ak h1
  refine Aa ?_
  rcases Ae hd with⟨al,hd⟩|⟨al,hd⟩
  ·refine Al f Z al ?_
   refine Af ?_
   refine Ac f Z λa f=>Aa ?_
   refine Ax ?_
   have m:Mem W ai w H:=Mem.drop (H':=[ib ad 29 [aa]]) m
   obtain rfl:=sj hd
   exact⟨[(.bool false)],f.g Z,f.d,_,[],(gt ah ak),m,Z,Z⟩
  ·refine Aj f Z al ?_
   refine Am ?_
   refine Af ?_
   refine Ac f Z λa f=>Aa (Ag (Af ?_))
   refine Ac f Z λa f=>Aa ?_
   have⟨am,an,hd⟩:=bind_some hd
   refine AN (λa w=>∃q_1697':Int,am= .inl q_1697'∧∃ao:Int,ao=q_1697'∧∃(ap:GH),GLe ai ap∧Fr a 86 [(2,(pb ad)),(5,(iv ao))]∧Mem W ap w (ib ad 29 [aa]::H)) ?_ ?_
   ·refine Ak ?_
    refine AI (λaq a w=>∃ar:Int,∃au:Int,(ar,au)=aq∧∃(av:GH),GLe ai av∧Fr a 86 [(1,v1),(2,(pb ad)),(5,(iv ar)),(6,(iv au))]∧Mem W av w (ib ad 29 [aa]::H)) an ⟨_,_,Z,_,gr,f.k Z,m⟩ ?_
    clear an f m
    rintro aq aw ax ay a w ⟨ar,au,rfl,av,az,f,m⟩
    have h1:=rd2 az h1
    have ac:=rd2 az ac
    refine Ag (Af ?_)
    refine Ab f Z λa f=>Ab f Z λa f=>A6 underlying27 f Z Z h1 λa f=>Ai f Z Z AP λa f=>Aa ?_
    rcases Ae ax with⟨aA,ax⟩|⟨aA,ax⟩
    ·refine Al f Z aA ?_
     refine Am ?_
     refine Ag (Ak (Ag (Af ?_)))
     refine Ac f Z λa f=>Aa ?_
     have⟨aB,aC,ax⟩:=bind_some ax
     refine AN (λa w=>∃q_2963':Unit,aB= .inl q_2963'∧∃(aD:GH),GLe av aD∧Fr a 86 [(1,v1),(2,(pb ad)),(5,(iv ar)),(6,(iv au))]∧Mem W aD w (ib ad 29 [aa]::H)) ?_ ?_
     ·refine Ak ?_
      refine AI (λaE a w=>∃aF:Int,aF=aE∧∃(aG:GH),GLe av aG∧Fr a 86 [(1,v1),(2,(pb ad)),(5,(iv ar)),(6,(iv au)),(7,(iv aF))]∧Mem W aG w (ib ad 29 [aa]::H)) aC ⟨_,Z,_,gr,f.k Z,m⟩ ?_
      clear aC f m
      rintro aE aH aI aJ a w ⟨aF,rfl,aG,aK,f,m⟩
      have h1:=rd2 aK h1
      have ac:=rd2 aK ac
      refine Ag (Af ?_)
      refine Ab f Z λa f=>Ab f Z λa f=>Ab f Z λa f=> ?_
      have⟨aL,aM,aI⟩:=bind_some aI
      refine Bi T27 f Z Z Z h1 aM λaN aO a aP aQ f=>AH m Bj f Z Z aP λa f=>A6 underlying31 f Z Z aQ λa f=>Ai f Z Z AP λa f=>Aa ?_
      rcases Ae aI with⟨aR,aI⟩|⟨aR,aI⟩
      ·refine Al f Z aR ?_
       refine Am ?_
       refine Ag (Ak (Af ?_))
       refine Ab f Z λa f=>Ab f Z λa f=> ?_
       have⟨aS,aT,aI⟩:=bind_some aI
       refine Bi T27 f Z Z Z h1 aT λaU aV a aW aX f=>AH m Bj f Z Z aW λa f=>Ab f Z λa f=> ?_
       have⟨aY,aZ,aI⟩:=bind_some aI
       refine Bi T31 f Z Z Z aX aZ λa0 a1 a a2 a3 f=> ?_
       subst a3
       refine AH m Pl2 f Z Z a2 λa f=>Ac f Z λa f=>AG ?_
       refine Bp underlying29 Z sizeOf27 f Z λa f=>AM 0 0 m BL f Z Z Z Z λa f=>Ab f Z λa f=> ?_
       have⟨a4,a5,aI⟩:=bind_some aI
       refine Bi T27 f Z Z Z ac a5 λa6 a7 a a8 a9 f=>AH m Bj f Z Z a8 λa f=>Ab f Z λa f=> ?_
       have⟨ba,bb,aI⟩:=bind_some aI
       refine Bk f Z call115 (Wk.d m a9 bb) λbc w bd m a f=> ?_
       have h1:=rd2 bd h1
       refine l_o f (Bn (f.e Z)) λa f=>Ab f Z λa f=> ?_
       have⟨be,bf,aI⟩:=bind_some aI
       refine Bo 7 (λa w=>∃bg,GLe bc bg∧Mem W bg w (ib ad 29 [aa]::H)∧Fr a 86 [(1,v1),(2,(pb ad)),(5,(iv ar)),(6,(iv au)),(7,(iv aF)),(8,(iv aY)),(42,(pb ad)),(43,aa),(44,(iv au)),(45,a6),(46,a7),(47,(iv aY)),(48,(.bool ba)),(49,(.bool (!ba))),(50,(.bool (!ba))),(57,(.bool be))]) ?_ ?_
       ·rcases Ae bf with⟨bh,bf⟩|⟨bh,bf⟩
        ·refine As f bh λa f=> ?_
         refine As f bh λa f=>As f bh λa f=>As f bh λa f=>As f bh λa f=>As f bh λa f=>l_o f (AT (f.e Z) bh (f.e Z)) λa f=> ?_
         obtain rfl:=sj bf
         exact⟨_,gr,m,f.k Z⟩
        ·refine Ar f bh ?_
         refine Ab f Z λa f=>Ar f bh ?_
         refine Ab f Z λa f=>Ar f bh ?_
         have⟨bi,bj,bf⟩:=bind_some bf
         refine Bi T27 f Z Z Z h1 bj λbk bl a bm bn f=>Ar f bh ?_
         refine AH m Bj f Z Z bm λa f=>Ar f bh ?_
         refine Ab f Z λa f=>Ar f bh ?_
         have⟨bo,bp,bf⟩:=bind_some bf
         refine Bk f Z call115 (Wk.d m bn bp) λbq w br m a f=>l_o f (AS (f.e Z) bh (f.e Z)) λa f=> ?_
         obtain rfl:=sj bf
         exact⟨_,br,m,f.k Z⟩
       ·rintro a w ⟨bg,bs,m,f⟩
        have h1:=rd2 bs h1
        refine Ab f Z λa f=> ?_
        have⟨bt,bu,aI⟩:=bind_some aI
        refine Bo 15 (λa w=>∃bv,GLe bg bv∧Mem W bv w (ib ad 29 [aa]::H)∧Fr a 86 [(1,v1),(2,(pb ad)),(5,(iv ar)),(6,(iv au)),(7,(iv aF)),(8,(iv aY)),(42,(pb ad)),(43,aa),(44,(iv au)),(45,a6),(46,a7),(47,(iv aY)),(48,(.bool ba)),(49,(.bool (!ba))),(50,(.bool (!ba))),(57,(.bool be)),(58,(.bool be)),(73,(.bool bt))]) ?_ ?_
        ·rcases Ae bu with⟨bw,bu⟩|⟨bw,bu⟩
         ·refine As f bw λa f=> ?_
          refine As f bw λa f=>As f bw λa f=>B4 f Z Z Z λa f=>B4 f Z Z Z λa f=>B4 f Z Z Z λa f=>B4 f Z Z Z λa f=>B4 f Z Z Z λa f=>B4 f Z Z Z λa f=>B4 f Z Z Z λa f=>B4 f Z Z Z λa f=>B4 f Z Z Z λa f=>B4 f Z Z Z λa f=>As f bw λa f=>l_o f (AT (f.e Z) bw (f.e Z)) λa f=> ?_
          obtain rfl:=sj bu
          exact⟨_,gr,m,f.k Z⟩
         ·refine Ar f bw ?_
          refine Ab f Z λa f=>Ar f bw ?_
          refine Ai f Z Z Cx λa f=>Ar f bw ?_
          refine Ab f Z λa f=> ?_
          have⟨bx,bz,bu⟩:=bind_some bu
          refine Bo 11 (λa w=>∃bA,GLe bg bA∧Mem W bA w (ib ad 29 [aa]::H)∧Fr a 86 [(1,v1),(2,(pb ad)),(5,(iv ar)),(6,(iv au)),(7,(iv aF)),(8,(iv aY)),(42,(pb ad)),(43,aa),(44,(iv au)),(45,a6),(46,a7),(47,(iv aY)),(48,(.bool ba)),(49,(.bool (!ba))),(50,(.bool (!ba))),(57,(.bool be)),(58,(.bool be)),(59,(iv aF)),(60,(.bool (decide ((0:Int)<aF)))),(61,(.bool (decide ((0:Int)<aF)))),(72,(.bool bx))]) ?_ ?_
          ·rcases Ae bz with⟨bB,bz⟩|⟨bB,bz⟩
           ·refine Ar f bB ?_
            refine Ab f Z λa f=>Ar f bB ?_
            refine Ab f Z λa f=>Ar f bB ?_
            have⟨bC,bD,bz⟩:=bind_some bz
            refine Bi T27 f Z Z Z h1 bD λbE bF a bG bH f=>Ar f bB ?_
            refine AH m Bj f Z Z bG λa f=>Ar f bB ?_
            refine Ab f Z λa f=>Ar f bB ?_
            refine Ai f Z Z A3 λa f=>Ar f bB ?_
            have⟨bI,bJ,bz⟩:=bind_some bz
            refine Bi T31 f Z Z Z bH bJ λbK bL a bM bN f=> ?_
            subst bN
            refine Ar f bB ?_
            refine AH m Pl2 f Z Z bM λa f=>Ar f bB ?_
            refine Ab f Z λa f=>Ar f bB ?_
            refine Ai f Z Z Ci λa f=>Ar f bw ?_
            refine l_o f (AT (f.e Z) bB (f.e Z)) λa f=> ?_
            obtain rfl:=sj bz
            exact⟨_,gr,m,f.k Z⟩
           ·refine As f bB λa f=> ?_
            refine As f bB λa f=>As f bB λa f=>As f bB λa f=>As f bB λa f=>As f bB λa f=>As f bB λa f=>As f bB λa f=>As f bB λa f=>As f bB λa f=>Ar f bw ?_
            refine l_o f (AS (f.e Z) bB (f.e Z)) λa f=> ?_
            obtain rfl:=sj bz
            exact⟨_,gr,m,f.k Z⟩
          ·rintro a w ⟨bA,bO,m,f⟩
           refine l_o f (AS (f.e Z) bw (f.e Z)) λa f=> ?_
           obtain rfl:=sj bu
           exact⟨_,bO,m,f.k Z⟩
        ·rintro a w ⟨bv,bP,m,f⟩
         refine Aa ?_
         rcases Ae aI with⟨bQ,aI⟩|⟨bQ,aI⟩
         ·refine Al f Z bQ ?_
          refine Af ?_
          refine Ac f Z λa f=>Aa ?_
          refine Ax ?_
          have m:Mem W bv w H:=Mem.drop (H':=[ib ad 29 [aa]]) m
          obtain rfl:=sj aI
          obtain rfl:=aJ _ rfl
          obtain rfl:=sj ax
          obtain rfl:=ay _ rfl
          obtain rfl:=sj hd
          exact⟨[(.bool false)],f.g Z,f.d,_,[],(gt ah (gt ak (gt az (gt aK (gt bd (gt bs bP)))))),m,Z,Z⟩
         ·refine Aj f Z bQ ?_
          refine Am ?_
          refine Ap ?_
          refine Ab f Z λa f=>Ai f Z Z Az λa f=>Ac f Z λa f=>Aa ?_
          obtain rfl:=sj aI
          exact⟨_,Z,_,Z,_,(gt aK (gt bd (gt bs bP))),f.k Z,m⟩
      ·refine Aj f Z aR ?_
       refine AE Z ?_
       obtain rfl:=sj aI
       obtain rfl:=aJ _ rfl
       exact⟨_,Z,_,aK,f.k Z,m⟩
     ·rintro a w ⟨_,rfl,aD,bR,f,m⟩
      have h1:=rd2 bR h1
      refine Ap ?_
      refine Ab f Z λa f=>Ab f Z λa f=>Ab f Z λa f=> ?_
      have⟨bS,bT,ax⟩:=bind_some ax
      refine Bi T27 f Z Z Z h1 bT λbU bV a bW bX f=>AH m Bj f Z Z bW λa f=>A6 underlying31 f Z Z bX λa f=>Ai f Z Z Az λa f=>Ac f Z λa f=>Aa (Ap ?_)
      refine Ab f Z λa f=>Ai f Z Z Az λa f=>Ac f Z λa f=>Aa ?_
      obtain rfl:=sj ax
      exact⟨_,Z,_,_,Z,_,(gt az bR),f.k Z,m⟩
    ·refine Aj f Z aA ?_
     refine AE Z ?_
     obtain rfl:=sj ax
     obtain rfl:=ay _ rfl
     exact⟨_,Z,_,Z,_,az,f.k Z,m⟩
   ·rintro a w ⟨_,rfl,ao,rfl,ap,bY,f,m⟩
    have ac:=rd2 bY ac
    refine Af ?_
    refine Ab f Z λa f=>Ai f Z Z Dl λa f=>AW 0 0 (ds:=[aa]) m Bv f Z Z Z Z Z λa f=> ?_
    have⟨bZ,b0,hd⟩:=bind_some hd
    refine Bk f Z call144 (Wk.c0 m ac b0) λb1 w b2 m a f=>Ai f Z Z BZ λa f=>Ac f Z λa f=>Aa ?_
    refine Ax ?_
    have m:Mem W b1 w H:=Mem.drop (H':=[ib ad 29 [aa]]) m
    obtain rfl:=sj hd
    exact⟨[(.bool ((i64.wrap (2*ao))==bZ))],f.g Z,f.d,_,[],(gt ah (gt ak (gt bY b2))),m,Z,Z⟩
theorem Wk.d0 {v0:Value}{x0:LL}(m:Mem W G w (H))(h0:R2 G v0 x0){y:Bool}(hd:D.d0 x0=some y):
  Calls prog 100 #[v0] w (Res W G H (λ_ Ho v=>Ho=[]∧v=(.bool y))):=by
 refine AB (args:=[v0]) (N:=51) [.tmp 2] func100 Z Z (lb Z) Z λa f=> ?_
 unfold D.d0 at hd
 refine Af ?_
 refine Ac f Z λa f=>Aa (Ag (Af ?_))
 refine Ac f Z λa f=>Aa ?_
 have⟨aa,ab,hd⟩:=bind_some hd
 refine AN (λa w=>∃q_1279':Unit,aa= .inl q_1279'∧∃(ac:GH),GLe G ac∧Fr a 51 []∧Mem W ac w (H)) ?_ ?_
 ·refine Ak ?_
  refine AI (λad a w=>∃ae:Int,ae=ad∧∃(af:GH),GLe G af∧Fr a 51 [(0,v0),(3,(iv ae))]∧Mem W af w (H)) ab ⟨_,Z,_,gr,f.k Z,m⟩ ?_
  clear ab f m
  rintro ad ag ah ai a w ⟨ae,rfl,af,aj,f,m⟩
  have h0:=rd2 aj h0
  refine Ag (Af ?_)
  refine Ab f Z λa f=>Ab f Z λa f=>A6 underlying27 f Z Z h0 λa f=>Ai f Z Z AP λa f=>Aa ?_
  rcases Ae ah with⟨ak,ah⟩|⟨ak,ah⟩
  ·refine Al f Z ak ?_
   refine Am ?_
   refine Ag (Ak (Af ?_))
   refine Ac f Z λa f=>Aa ?_
   have⟨al,am,ah⟩:=bind_some ah
   refine AN (λa w=>∃q_2243':Unit,al= .inl q_2243'∧∃(an:GH),GLe af an∧Fr a 51 [(0,v0),(3,(iv ae))]∧Mem W an w (H)) ?_ ?_
   ·refine Ak ?_
    refine AI (λao a w=>∃ap:Int,ap=ao∧∃(aq:GH),GLe af aq∧Fr a 51 [(0,v0),(3,(iv ae)),(4,(iv ap))]∧Mem W aq w (H)) am ⟨_,Z,_,gr,f.k Z,m⟩ ?_
    clear am f m
    rintro ao ar au av a w ⟨ap,rfl,aq,aw,f,m⟩
    have h0:=rd2 aw h0
    refine Ag (Af ?_)
    refine Ab f Z λa f=>Ab f Z λa f=>Ab f Z λa f=> ?_
    have⟨ax,ay,au⟩:=bind_some au
    refine Bi T27 f Z Z Z h0 ay λaz aA a aB aC f=>AH m Bj f Z Z aB λa f=>A6 underlying31 f Z Z aC λa f=>Ai f Z Z AP λa f=>Aa ?_
    rcases Ae au with⟨aD,au⟩|⟨aD,au⟩
    ·refine Al f Z aD ?_
     refine Am ?_
     refine Ag (Ak (Af ?_))
     refine Ab f Z λa f=>Ab f Z λa f=> ?_
     have⟨aE,aF,au⟩:=bind_some au
     refine Bi T27 f Z Z Z h0 aF λaG aH a aI aJ f=>AH m Bj f Z Z aI λa f=>Ab f Z λa f=> ?_
     have⟨aK,aL,au⟩:=bind_some au
     refine Bi T31 f Z Z Z aJ aL λaM aN a aO aP f=> ?_
     subst aP
     refine AH m Pl2 f Z Z aO λa f=>Ac f Z λa f=>AG ?_
     refine Ac f Z λa f=>Aa ?_
     have⟨aQ,aR,au⟩:=bind_some au
     refine AN (λa w=>∃q_2493':Unit,aQ= .inl q_2493'∧∃(aS:GH),GLe aq aS∧Fr a 51 [(0,v0),(3,(iv ae)),(4,(iv ap))]∧Mem W aS w (H)) ?_ ?_
     ·refine Ak ?_
      refine AI (λaT a w=>∃aU:Int,aU=aT∧∃(aV:GH),GLe aq aV∧Fr a 51 [(0,v0),(3,(iv ae)),(4,(iv ap)),(5,(iv aK)),(6,(iv aU))]∧Mem W aV w (H)) aR ⟨_,Z,_,gr,f.k Z,m⟩ ?_
      clear aR f m
      rintro aT aW aX aY a w ⟨aU,rfl,aV,aZ,f,m⟩
      have h0:=rd2 aZ h0
      refine Ag (Af ?_)
      refine Ab f Z λa f=>Ab f Z λa f=>Ab f Z λa f=> ?_
      have⟨a0,a1,aX⟩:=bind_some aX
      refine Bi T27 f Z Z Z h0 a1 λa2 a3 a a4 a5 f=>AH m Bj f Z Z a4 λa f=>A6 underlying31 f Z Z a5 λa f=>Ai f Z Z AP λa f=>Aa ?_
      rcases Ae aX with⟨a6,aX⟩|⟨a6,aX⟩
      ·refine Al f Z a6 ?_
       refine Am ?_
       refine Ag (Ak (Ag ?_))
       refine A9 13 AJ (by kernel_rfl) m ?_
       refine Ah 0 13 Z f Z λa f=>Ah 1 13 Z f Z λa f=> ?_
       have⟨a7,a8,aX⟩:=bind_some aX
       refine Bl 2 13 T27 h0 a8 Z f Z Z λa9 ba a bb bc f=>Bm 3 13 Bj bb Z f Z λa f=>Ah 4 13 Z f Z λa f=>Ah 5 13 Z f Z λa f=> ?_
       have⟨bd,be,aX⟩:=bind_some aX
       refine Bl 6 13 T27 h0 be Z f Z Z λbf bg a bh bi f=>Bm 7 13 Bj bh Z f Z λa f=>Ah 8 13 Z f Z λa f=> ?_
       have⟨bj,bk,aX⟩:=bind_some aX
       refine Bl 9 13 T31 bi bk Z f Z Z λbl bm a bn bo f=> ?_
       subst bo
       refine Bm 10 13 Pl2 bn Z f Z λa f=> ?_
       have⟨bp,bq,aX⟩:=bind_some aX
       refine B8 (i:=11) 13 Z (by kernel_rfl) Z f Z Z Z call115 (λ_ _ w br m=>Wk.d m (rd1 br bc) bq) λa f=>q_p 12 13 Z f (λ_=>Bn (f.e Z)) λa f=>AZ λbs w bt m=>Aa ?_
       rcases Ae aX with⟨bu,aX⟩|⟨bu,aX⟩
       ·refine Al f Z bu ?_
        refine Af ?_
        refine Ac f Z λa f=>Aa ?_
        refine Ax ?_
        obtain rfl:=sj aX
        obtain rfl:=aY _ rfl
        obtain rfl:=sj au
        obtain rfl:=av _ rfl
        obtain rfl:=sj ah
        obtain rfl:=ai _ rfl
        obtain rfl:=sj hd
        exact⟨[(.bool false)],f.g Z,f.d,_,[],(gt aj (gt aw (gt aZ bt))),m,Z,Z⟩
       ·refine Aj f Z bu ?_
        refine Am ?_
        refine Ap ?_
        refine Ab f Z λa f=>Ai f Z Z Az λa f=>Ac f Z λa f=>Aa ?_
        obtain rfl:=sj aX
        exact⟨_,Z,_,Z,_,(gt aZ bt),f.k Z,m⟩
      ·refine Aj f Z a6 ?_
       refine AE Z ?_
       obtain rfl:=sj aX
       obtain rfl:=aY _ rfl
       exact⟨_,Z,_,aZ,f.k Z,m⟩
     ·rintro a w ⟨_,rfl,aS,bv,f,m⟩
      refine Ap ?_
      refine Ab f Z λa f=>Ai f Z Z Az λa f=>Ac f Z λa f=>Aa ?_
      obtain rfl:=sj au
      exact⟨_,Z,_,Z,_,(gt aw bv),f.k Z,m⟩
    ·refine Aj f Z aD ?_
     refine AE Z ?_
     obtain rfl:=sj au
     obtain rfl:=av _ rfl
     exact⟨_,Z,_,aw,f.k Z,m⟩
   ·rintro a w ⟨_,rfl,an,bw,f,m⟩
    refine Ap ?_
    refine Ab f Z λa f=>Ai f Z Z Az λa f=>Ac f Z λa f=>Aa ?_
    obtain rfl:=sj ah
    exact⟨_,Z,_,Z,_,(gt aj bw),f.k Z,m⟩
  ·refine Aj f Z ak ?_
   refine AE Z ?_
   obtain rfl:=sj ah
   obtain rfl:=ai _ rfl
   exact⟨_,Z,_,aj,f.weak trivial,m⟩
 ·rintro a w ⟨_,rfl,ac,bx,f,m⟩
  refine Af ?_
  refine Ac f Z λa f=>Aa ?_
  refine Ax ?_
  obtain rfl:=sj hd
  exact⟨[(.bool true)],f.g Z,f.d,_,[],bx,m,Z,Z⟩
theorem Wk.t0 {aa v1:Value}{ab x1:LL}(m:Mem W G w (H))(ac:R2 G aa ab)(h1:R2 G v1 x1){y:Bool}(hd:D.t0 ab x1=some y):
  Calls prog 40 #[(.agg #[aa]),v1] w (Res W G H (λ_ Ho v=>Ho=[]∧v=(.bool y))):=by
 refine AB (args:=[(.agg #[aa]),v1]) (N:=12) [.tmp 4] func40 Z Z (lb Z) Z λa f=> ?_
 unfold D.t0 at hd
 refine Af ?_
 refine BB (cs:=[aa]) m f Z Z Z λad w a m f=>Ac f Z λa f=>AG ?_
 refine AW 0 0 (ds:=[aa]) m Bv f Z Z Z Z Z λa f=>Ab f Z λa f=> ?_
 have⟨ae,af,hd⟩:=bind_some hd
 refine Bk f Z call99 (Wk.l0 m ac h1 af) λag w ah m a f=> ?_
 have h1:=rd2 ah h1
 refine Ab f Z λa f=> ?_
 have⟨ai,aj,hd⟩:=bind_some hd
 refine Bo 3 (λa w=>∃ak,GLe ag ak∧Mem W ak w (ib ad 29 [aa]::H)∧Fr a 12 [(0,(.agg #[aa])),(1,v1),(2,(pb ad)),(5,(.agg #[aa])),(6,v1),(7,(.bool ae)),(8,(.bool ae)),(11,(.bool ai))]) ?_ ?_
 ·rcases Ae aj with⟨al,aj⟩|⟨al,aj⟩
  ·refine Ar f al ?_
   refine Ab f Z λa f=>Ar f al ?_
   have⟨am,an,aj⟩:=bind_some aj
   refine Bk f Z call100 (Wk.d0 m h1 an) λao w ap m a f=>l_o f (AT (f.e Z) al (f.e Z)) λa f=> ?_
   obtain rfl:=sj aj
   exact⟨_,ap,m,f.k Z⟩
  ·refine As f al λa f=> ?_
   refine As f al λa f=>l_o f (AS (f.e Z) al (f.e Z)) λa f=> ?_
   obtain rfl:=sj aj
   exact⟨_,gr,m,f.k Z⟩
 ·rintro a w ⟨ak,aq,m,f⟩
  refine Ac f Z λa f=>Aa ?_
  refine Ax ?_
  have m:Mem W ak w H:=Mem.drop (H':=[ib ad 29 [aa]]) m
  obtain rfl:=sj hd
  exact⟨[(.bool ai)],f.g Z,f.d,_,[],(gt ah aq),m,Z,Z⟩
theorem Wk.v {v0:Value}{x0:LL}(m:Mem W G w (H))(h0:R2 G v0 x0){y:(LI)}(hd:D.v x0=some y):
  Calls prog 102 #[v0] w (Res W G H (λG' Ho v=>∃r0:Value,∃i0:Itm,Ho=[i0]∧r0=v∧Ow (RI .u32) 63 G' i0 r0 y)):=by
 refine AB (args:=[v0]) (N:=20) [.tmp 2] func102 Z Z (lb Z) Z λa f=> ?_
 unfold D.v at hd
 refine Af ?_
 refine Ac f Z λa f=>AG ?_
 refine By (R:=(RI .u32)) (xs:=([]:LI)) (RI.one _) m T59 f Z Z Z (by decide) (All2.nil _) λaa ab w a m ac f=>Ac f Z λa f=>Aa (Ag (Af ?_))
 refine Ab f Z λa f=>A6 underlying27 f Z Z h0 λa f=>Ab f Z λa f=>Aa ?_
 have⟨ad,ae,hd⟩:=bind_some hd
 refine AN (λa w=>∃af:LI,af=ad∧∃(ag:GH) (ah:Value) (ai:Itm),GLe G ag∧Fr a 20 [(3,ah)]∧Mem W ag w (ai::H)∧Ow (RI .u32) 63 ag ai ah af) ?_ ?_
 ·refine Ak ?_
  refine AI (λaj a w=>∃ak:LI,∃al:Int,(ak,al)=aj∧∃(am:GH) (an:Value) (ao:Itm),GLe G am∧Fr a 20 [(3,an),(7,v0),(8,(iv (x0.length:Int))),(9,(iv al))]∧Mem W am w (ao::H)∧Ow (RI .u32) 63 am ao an ak) ae ⟨_,_,Z,_,ab,aa,gr,f.k Z,m,ac⟩ ?_
  clear ae f m
  rintro aj ap aq ar a w ⟨ak,al,rfl,am,an,ao,au,f,m,av⟩
  have h0:=rd2 au h0
  refine Af ?_
  refine Ai f Z Z AP λa f=>Aa (Ag ?_)
  rcases Ae aq with⟨aw,aq⟩|⟨aw,aq⟩
  ·refine Al f Z aw ?_
   refine Am ?_
   refine Ag (Ak (Af ?_))
   have⟨ax,ay,aq⟩:=bind_some aq
   refine Bi T27 f Z Z Z h0 ay λaz aA a aB aC f=>AH m Bj f Z Z aB λa f=>Ac f Z λa f=>Aa (Ap ?_)
   refine Ab f Z λa f=>Ab f Z λa f=> ?_
   have⟨aD,aE,aq⟩:=bind_some aq
   refine Bk f Z call120 (Wk.N m aC aE) λaF w aG m a f=> ?_
   have av:=od1 aG av
   refine By (R:=(RI .u32)) (xs:=([aD]:LI)) (RI.one _) m T59 f Z Z Z (by decide) (All2.cons Z (All2.nil _)) λaH aI w a m aJ f=> ?_
   have⟨aK,aL,aq⟩:=bind_some aq
   refine BR (RI.one _) 1 m av Z T59 Z (by decide) f Z Z Z (Ow.src (j:=0) aJ m Z) aL λaM aN w a m aO f=>Ac f Z λa f=>Aa (Ap ?_)
   refine Ai f Z Z Az λa f=>Ab f Z λa f=>Aa ?_
   have m:=m.fr 1
   have m:=m.eraseAt 1
   obtain rfl:=sj aq
   exact⟨_,Z,_,_,Z,_,aN,aM,(gt au aG),f.k Z,m,aO⟩
  ·refine Aj f Z aw ?_
   refine AE Z ?_
   obtain rfl:=sj aq
   obtain rfl:=ar _ rfl
   exact⟨_,Z,_,an,ao,au,f.k Z,m,av⟩
 ·rintro a w ⟨af,rfl,ag,ah,ai,aP,f,m,aQ⟩
  refine Af ?_
  refine Ab f Z λa f=>Ac f Z λa f=>Aa ?_
  refine Ax ?_
  obtain rfl:=sj hd
  exact⟨[ah],f.g Z,f.d,_,[ai],aP,m,_,_,Z,Z,aQ⟩
theorem Wk.A {x0 x1:Int}(m:Mem W G w (H)){y:Bool}(hd:D.A x0 x1=some y):
  Calls prog 104 #[(.int .u32 x0),(iv x1)] w (Res W G H (λ_ Ho v=>Ho=[]∧v=(.bool y))):=by
 refine AB (args:=[(.int .u32 x0),(iv x1)]) (N:=10) [.tmp 4] func104 Z Z (lb Z) Z λa f=> ?_
 unfold D.A at hd
 refine Af ?_
 refine Ac f Z λa f=>AG ?_
 refine Ab f Z λa f=>Ab f Z λa f=> ?_
 obtain⟨aa,hd⟩:=DA hd
 refine l_o f (r_shr (f.e Z) (f.e Z) aa) λa f=>Ai f Z Z b_and λa f=>Ai f Z Z BZ λa f=>Ac f Z λa f=>Aa ?_
 refine Ax ?_
 obtain rfl:=sj hd
 exact⟨[(.bool ((iand .u32 (Bx .u32 x0 x1) 1)==1))],f.g Z,f.d,_,[],gr,m,Z,Z⟩
theorem Wk.I {aa v1:Value}{ab x1:LL}(hW:Cs W)(m:Mem W G w (H))(ac:R2 G aa ab)(h1:R2 G v1 x1){y:Bool}(hd:D.I ab x1=some y):
  Calls prog 42 #[(.agg #[aa]),v1] w (Res W G H (λ_ Ho v=>Ho=[]∧v=(.bool y))):=by
 refine AB (args:=[(.agg #[aa]),v1]) (N:=75) [.tmp 4] func42 Z Z (lb Z) Z λa f=> ?_
 unfold D.I at hd
 refine Af ?_
 refine BB (cs:=[aa]) m f Z Z Z λad w a m f=>Ac f Z λa f=>Aa (Ag (Af ?_))
 refine AW 0 0 (ds:=[aa]) m Bv f Z Z Z Z Z λa f=> ?_
 have⟨ae,af,hd⟩:=bind_some hd
 refine Bk f Z call50 (Wk.h m ac af) λag w ah m a f=> ?_
 have ac:=rd2 ah ac
 have h1:=rd2 ah h1
 refine l_o f (Bn (f.e Z)) λa f=>Ab f Z λa f=> ?_
 refine Bo 7 (λa w=>∃ai,GLe ag ai∧Mem W ai w (ib ad 29 [aa]::H)∧Fr a 75 [(0,(.agg #[aa])),(1,v1),(2,(pb ad)),(12,(.agg #[aa])),(13,(.bool ae)),(14,(.bool (!ae))),(15,(.bool (!ae))),(22,(.bool ((!ae)||((x1.length:Int) !=(ab.length:Int)))))]) ?_ ?_
 ·rcases Bool.eq_false_or_eq_true (!ae) with aj|aj
  ·refine As f aj λa f=> ?_
   refine As f aj λa f=>As f aj λa f=>As f aj λa f=>As f aj λa f=>As f aj λa f=>l_o f (AT (f.e Z) aj (f.e Z)) λa f=> ?_
   exact⟨_,gr,m,f.weak ⟨Z,Z,Z,Z,Z,Z,Z,by rw[aj];rfl,trivial⟩⟩
  ·refine Ar f aj ?_
   refine Ab f Z λa f=>Ar f aj ?_
   refine A6 underlying27 f Z Z h1 λa f=>Ar f aj ?_
   refine Bp underlying29 Z sizeOf27 f Z λa f=>Ar f aj ?_
   refine AM 0 0 m BL f Z Z Z Z λa f=>Ar f aj ?_
   refine A6 underlying27 f Z Z ac λa f=>Ar f aj ?_
   refine Ai f Z Z Cy λa f=>l_o f (AS (f.e Z) aj (f.e Z)) λa f=> ?_
   exact⟨_,gr,m,f.weak ⟨Z,Z,Z,Z,Z,Z,Z,by rw[aj];rfl,trivial⟩⟩
 ·rintro a w ⟨ai,ak,m,f⟩
  have ac:=rd2 ak ac
  have h1:=rd2 ak h1
  refine Aa ?_
  rcases Ae hd with⟨al,hd⟩|⟨al,hd⟩
  ·refine Al f Z al ?_
   refine Af ?_
   refine Ac f Z λa f=>Aa ?_
   refine Ax ?_
   have m:Mem W ai w H:=Mem.drop (H':=[ib ad 29 [aa]]) m
   obtain rfl:=sj hd
   exact⟨[(.bool false)],f.g Z,f.d,_,[],(gt ah ak),m,Z,Z⟩
  ·refine Aj f Z al ?_
   refine Am ?_
   refine Ag (Af ?_)
   refine Ab f Z λa f=>A6 underlying27 f Z Z h1 λa f=>Ab f Z λa f=>Aa ?_
   have⟨am,an,hd⟩:=bind_some hd
   refine AN (λa w=>∃q_46':Unit,am= .inl q_46'∧∃(ao:GH),GLe ai ao∧Fr a 75 [(1,v1),(2,(pb ad))]∧Mem W ao w (ib ad 29 [aa]::H)) ?_ ?_
   ·refine Ak ?_
    refine AI (λap a w=>∃aq:Int,aq=ap∧∃(ar:GH),GLe ai ar∧Fr a 75 [(1,v1),(2,(pb ad)),(23,v1),(24,(iv (x1.length:Int))),(25,(iv aq))]∧Mem W ar w (ib ad 29 [aa]::H)) an ⟨_,Z,_,gr,f.k Z,m⟩ ?_
    clear an f m
    rintro ap au av aw a w ⟨aq,rfl,ar,ax,f,m⟩
    have h1:=rd2 ax h1
    have ac:=rd2 ax ac
    refine Af ?_
    refine Ai f Z Z AP λa f=>Aa (Ag ?_)
    rcases Ae av with⟨ay,av⟩|⟨ay,av⟩
    ·refine Al f Z ay ?_
     refine Am ?_
     refine Ag (Ak (Af ?_))
     have⟨az,aA,av⟩:=bind_some av
     refine Bi T27 f Z Z Z h1 aA λaB aC a aD aE f=>AH m Bj f Z Z aD λa f=>Ac f Z λa f=>AG ?_
     refine Ab f Z λa f=>Bp underlying29 Z sizeOf27 f Z λa f=>AM 0 0 m BL f Z Z Z Z λa f=>A6 underlying27 f Z Z ac λa f=> ?_
     have⟨aF,aG,av⟩:=bind_some av
     refine Bk f Z call103 (Wk.y m aE aG) λaH w aI m a f=>l_o f (Bn (f.e Z)) λa f=>Aa ?_
     rcases Ae av with⟨aJ,av⟩|⟨aJ,av⟩
     ·refine Al f Z aJ ?_
      refine Af ?_
      refine Ac f Z λa f=>Aa ?_
      refine Ax ?_
      have m:Mem W aH w H:=Mem.drop (H':=[ib ad 29 [aa]]) m
      obtain rfl:=sj av
      obtain rfl:=aw _ rfl
      obtain rfl:=sj hd
      exact⟨[(.bool false)],f.g Z,f.d,_,[],(gt ah (gt ak (gt ax aI))),m,Z,Z⟩
     ·refine Aj f Z aJ ?_
      refine Am ?_
      refine Ap ?_
      refine Ai f Z Z Az λa f=>Ab f Z λa f=>Aa ?_
      obtain rfl:=sj av
      exact⟨_,Z,_,Z,_,(gt ax aI),f.k Z,m⟩
    ·refine Aj f Z ay ?_
     refine AE Z ?_
     obtain rfl:=sj av
     obtain rfl:=aw _ rfl
     exact⟨_,Z,_,ax,f.k Z,m⟩
   ·rintro a w ⟨_,rfl,ao,aK,f,m⟩
    have h1:=rd2 aK h1
    have ac:=rd2 aK ac
    refine Af ?_
    refine Ab f Z λa f=> ?_
    have⟨aL,aM,hd⟩:=bind_some hd
    refine A5 f Z call102 (Wk.v m h1 aM) λaN aO aP w aQ m aR a f=> ?_
    obtain⟨aS,aT,rfl,rfl,aU⟩:=aR
    have ac:=rd2 aQ ac
    refine Ac f Z λa f=>Aa (Ag (Af ?_))
    refine AW 1 0 (ds:=[aa]) m Bv f Z Z Z Z Z λa f=> ?_
    have⟨aV,aW,hd⟩:=bind_some hd
    refine A5 f Z call51 (Wk.j m ac aW) λaX aY aZ w a0 m a1 a f=> ?_
    obtain⟨a2,a3,rfl,rfl,a4⟩:=a1
    have aU:=od1 a0 aU
    refine Db 0 m a4 Z underlying60 f Z Z λa f=>Ab f Z λa f=>Aa ?_
    have⟨a5,a6,hd⟩:=bind_some hd
    refine AN (λa w=>∃q_411':Unit,a5= .inl q_411'∧∃(a7:GH),GLe aY a7∧Fr a 75 []∧Mem W a7 w (H)) ?_ ?_
    ·refine Ak ?_
     have m:=m.fr 1
     have m:=m.eraseAt 2
     refine AI (λa8 a w=>∃a9:Int,a9=a8∧∃(ba:GH),GLe aY ba∧Fr a 75 [(7,aS),(39,a2),(40,(iv (aV.length:Int))),(41,(iv a9))]∧Mem W ba w (aT::a3::H)) a6 ⟨_,Z,_,gr,f.k Z,m⟩ ?_
     clear a6 f m
     rintro a8 bb bc bd a w ⟨a9,rfl,ba,be,f,m⟩
     have aU:=od1 be aU
     have a4:=od1 be a4
     refine Af ?_
     refine Ai f Z Z AP λa f=>Aa (Ag ?_)
     rcases Ae bc with⟨bf,bc⟩|⟨bf,bc⟩
     ·refine Al f Z bf ?_
      refine Am ?_
      refine Ag (Ak (Af ?_))
      refine Ab f Z λa f=> ?_
      have⟨bg,bh,bc⟩:=bind_some bc
      refine Cb 1 m a4 Z T60 f Z Z Z bh λbi a bj f=>B1 1 m a4 Z Dj f Z Z bj bh λbk a bl f=> ?_
      subst bl
      refine Ac f Z λa f=>Ac f Z λa f=>Aa (Ag (Af ?_))
      refine Ab f Z λa f=>Ab f Z λa f=> ?_
      have⟨bm,bn,bc⟩:=bind_some bc
      refine Cb 0 m aU Z T59 f Z Z Z bn λbo a bp f=>B1 0 m aU Z Dj f Z Z bp bn λbq a br f=> ?_
      subst br
      refine Ab f Z λa f=>Ai f Z Z CN λa f=>Ai f Z Z Cy λa f=>Aa ?_
      rcases Ae bc with⟨bs,bc⟩|⟨bs,bc⟩
      ·refine Al f Z bs ?_
       refine Af ?_
       refine Ac f Z λa f=>Aa ?_
       refine Ax ?_
       have m:Mem W ba w H:=Mem.drop (H':=[aT,a3]) m
       obtain rfl:=sj bc
       obtain rfl:=bd _ rfl
       obtain rfl:=sj hd
       exact⟨[(.bool false)],f.g Z,f.d,_,[],(gt ah (gt ak (gt aK (gt aQ (gt a0 be))))),m,Z,Z⟩
      ·refine Aj f Z bs ?_
       refine Am ?_
       refine Af ?_
       refine Ab f Z λa f=> ?_
       have⟨bt,bu,bc⟩:=bind_some bc
       refine A5 f Z call54 (Wk.g hW m bu) λbv bw bx w bz m bA a f=> ?_
       obtain⟨bB,bC,rfl,rfl,bD⟩:=bA
       have aU:=od1 bz aU
       refine Db 0 m bD Z underlying65 f Z Z λa f=>Ab f Z λa f=>Aa ?_
       have⟨bE,bF,bc⟩:=bind_some bc
       refine AN (λa w=>∃q_655':Unit,bE= .inl q_655'∧∃(bG:GH),GLe bw bG∧Fr a 75 [(7,aS),(39,a2),(40,(iv (aV.length:Int))),(41,(iv a9))]∧Mem W bG w (aT::a3::H)) ?_ ?_
       ·refine Ak ?_
        have m:=m.fr 2
        have m:=m.fr 2
        refine AI (λbH a w=>∃bI:Int,bI=bH∧∃(bJ:GH),GLe bw bJ∧Fr a 75 [(7,aS),(8,(iv a9)),(39,a2),(40,(iv (aV.length:Int))),(41,(iv a9)),(54,bB),(55,(iv (bt.length:Int))),(56,(iv bI))]∧Mem W bJ w (aT::a3::bC::H)) bF ⟨_,Z,_,gr,f.k Z,m⟩ ?_
        clear bF f m
        rintro bH bK bL bM a w ⟨bI,rfl,bJ,bN,f,m⟩
        have aU:=od1 bN aU
        have bD:=od1 bN bD
        refine Af ?_
        refine Ai f Z Z AP λa f=>Aa (Ag ?_)
        rcases Ae bL with⟨bO,bL⟩|⟨bO,bL⟩
        ·refine Al f Z bO ?_
         refine Am ?_
         refine Ag (Ak (Af ?_))
         have⟨bP,bQ,bL⟩:=bind_some bL
         refine Cb 2 m bD Z T65 f Z Z Z bQ λbR a bS f=>B1 2 m bD Z Pl3 f Z Z bS bQ λbT a bU f=> ?_
         subst bU
         refine Ac f Z λa f=>Aa (Ag ?_)
         refine A9 13 AJ (by kernel_rfl) m ?_
         refine Ah 0 13 Z f Z λa f=>Ah 1 13 Z f Z λa f=> ?_
         have⟨bV,bW,bL⟩:=bind_some bL
         refine q_oa 2 13 0 m aU T59 bW Z f Z Z λbX a bY f=>q_ol 3 13 0 aU Dj bY bW Z f Z λbZ a b0 f=> ?_
         subst b0
         refine Ah 4 13 Z f Z λa f=> ?_
         have⟨b1,b2,bL⟩:=bind_some bL
         refine B8 (i:=5) 13 Z (by kernel_rfl) Z f Z Z Z call104 (λ_ _ w b3 m=>Wk.A m b2) λa f=>Ah 6 13 Z f Z λa f=>Ah 7 13 Z f Z λa f=> ?_
         have⟨b4,b5,bL⟩:=bind_some bL
         refine q_oa 8 13 0 m aU T59 b5 Z f Z Z λb6 a b7 f=>q_ol 9 13 0 aU Dj b7 b5 Z f Z λb8 a b9 f=> ?_
         subst b9
         refine Ah 10 13 Z f Z λa f=> ?_
         have⟨ca,cb,bL⟩:=bind_some bL
         refine B8 (i:=11) 13 Z (by kernel_rfl) Z f Z Z Z call104 (λ_ _ w cc m=>Wk.A m cb) λa f=>q_p 12 13 Z f (λ_=>r_bool_eql (f.e Z) (f.e Z) underlying4) λa f=>AZ λcd w ce m=>Aa ?_
         rcases Ae bL with⟨cf,bL⟩|⟨cf,bL⟩
         ·refine Al f Z cf ?_
          refine Af ?_
          refine Ac f Z λa f=>Aa ?_
          refine Ax ?_
          have m:Mem W cd w H:=Mem.drop (H':=[aT,a3,bC]) m
          obtain rfl:=sj bL
          obtain rfl:=bM _ rfl
          obtain rfl:=sj bc
          obtain rfl:=bd _ rfl
          obtain rfl:=sj hd
          exact⟨[(.bool false)],f.g Z,f.d,_,[],(gt ah (gt ak (gt aK (gt aQ (gt a0 (gt be (gt bz (gt bN ce)))))))),m,Z,Z⟩
         ·refine Aj f Z cf ?_
          refine Am ?_
          refine Ap ?_
          refine Ai f Z Z Az λa f=>Ab f Z λa f=>Aa ?_
          obtain rfl:=sj bL
          exact⟨_,Z,_,Z,_,(gt bN ce),f.k Z,m⟩
        ·refine Aj f Z bO ?_
         refine AE Z ?_
         have m:=m.eraseAt 2
         obtain rfl:=sj bL
         obtain rfl:=bM _ rfl
         exact⟨_,Z,_,bN,f.k Z,m⟩
       ·rintro a w ⟨_,rfl,bG,cg,f,m⟩
        refine Ap ?_
        refine Ai f Z Z Az λa f=>Ab f Z λa f=>Aa ?_
        obtain rfl:=sj bc
        exact⟨_,Z,_,Z,_,(gt be (gt bz cg)),f.k Z,m⟩
     ·refine Aj f Z bf ?_
      refine AE Z ?_
      have m:Mem W ba w H:=Mem.drop (H':=[aT,a3]) m
      obtain rfl:=sj bc
      obtain rfl:=bd _ rfl
      exact⟨_,Z,_,be,f.weak trivial,m⟩
    ·rintro a w ⟨_,rfl,a7,ch,f,m⟩
     refine Af ?_
     refine Ac f Z λa f=>Aa ?_
     refine Ax ?_
     obtain rfl:=sj hd
     exact⟨[(.bool true)],f.g Z,f.d,_,[],(gt ah (gt ak (gt aK (gt aQ (gt a0 ch))))),m,Z,Z⟩
theorem Wk.q0 {v0:Value}{x0:LI}(hW:Cs W)(m:Mem W G w (H))(h0:RSl (RI .u32) G v0 x0){y:Bool}(hd:D.q0 x0=some y):
  Calls prog 101 #[v0] w (Res W G H (λ_ Ho v=>Ho=[]∧v=(.bool y))):=by
 refine AB (args:=[v0]) (N:=29) [.tmp 2] func101 Z Z (lb Z) Z λa f=> ?_
 unfold D.q0 at hd
 refine Af ?_
 refine Ac f Z λa f=>Aa (Ag (Af ?_))
 refine Ab f Z λa f=>A6 underlying59 f Z Z h0 λa f=>Ab f Z λa f=>Aa ?_
 have⟨aa,ab,hd⟩:=bind_some hd
 refine AN (λa w=>∃q_177':Unit,aa= .inl q_177'∧∃(ac:GH),GLe G ac∧Fr a 29 []∧Mem W ac w (H)) ?_ ?_
 ·refine Ak ?_
  refine AI (λad a w=>∃ae:Int,ae=ad∧∃(af:GH),GLe G af∧Fr a 29 [(0,v0),(7,v0),(8,(iv (x0.length:Int))),(9,(iv ae))]∧Mem W af w (H)) ab ⟨_,Z,_,gr,f.k Z,m⟩ ?_
  clear ab f m
  rintro ad ag ah ai a w ⟨ae,rfl,af,aj,f,m⟩
  have h0:=rd1 aj h0
  refine Af ?_
  refine Ai f Z Z AP λa f=>Aa (Ag ?_)
  rcases Ae ah with⟨ak,ah⟩|⟨ak,ah⟩
  ·refine Al f Z ak ?_
   refine Am ?_
   refine Ag (Ak (Af ?_))
   have⟨al,am,ah⟩:=bind_some ah
   refine Bi T59 f Z Z Z h0 am λan ao a ap aq f=> ?_
   subst aq
   refine AH m Dj f Z Z ap λa f=>Ac f Z λa f=>AG ?_
   refine Ab f Z λa f=> ?_
   have⟨ar,au,ah⟩:=bind_some ah
   refine A5 f Z call54 (Wk.g hW m au) λav aw ax w ay m az a f=> ?_
   obtain⟨aA,aB,rfl,rfl,aC⟩:=az
   have h0:=rd1 ay h0
   refine Db 0 m aC Z underlying65 f Z Z λa f=>Ab f Z λa f=>Aa ?_
   have⟨aD,aE,ah⟩:=bind_some ah
   refine AN (λa w=>∃q_323':Unit,aD= .inl q_323'∧∃(aF:GH),GLe aw aF∧Fr a 29 [(0,v0),(7,v0),(8,(iv (x0.length:Int))),(9,(iv ae))]∧Mem W aF w (H)) ?_ ?_
   ·refine Ak ?_
    refine AI (λaG a w=>∃aH:Int,aH=aG∧∃(aI:GH),GLe aw aI∧Fr a 29 [(0,v0),(4,(.int .u32 al)),(7,v0),(8,(iv (x0.length:Int))),(9,(iv ae)),(14,aA),(15,(iv (ar.length:Int))),(16,(iv aH))]∧Mem W aI w (aB::H)) aE ⟨_,Z,_,gr,f.k Z,m⟩ ?_
    clear aE f m
    rintro aG aJ aK aL a w ⟨aH,rfl,aI,aM,f,m⟩
    have h0:=rd1 aM h0
    have aC:=od1 aM aC
    refine Af ?_
    refine Ai f Z Z AP λa f=>Aa (Ag ?_)
    rcases Ae aK with⟨aN,aK⟩|⟨aN,aK⟩
    ·refine Al f Z aN ?_
     refine Am ?_
     refine Ag (Ak (Af ?_))
     have⟨aO,aP,aK⟩:=bind_some aK
     refine Cb 0 m aC Z T65 f Z Z Z aP λaQ a aR f=>B1 0 m aC Z Pl3 f Z Z aR aP λaS a aT f=> ?_
     subst aT
     refine Ac f Z λa f=>AG ?_
     refine Ab f Z λa f=>Ab f Z λa f=> ?_
     have⟨aU,aV,aK⟩:=bind_some aK
     refine Bi T59 f Z Z Z h0 aV λaW aX a aY aZ f=> ?_
     subst aZ
     refine AH m Dj f Z Z aY λa f=>Ab f Z λa f=>Ai f Z Z CN λa f=>Ai f Z Z Cy λa f=>Aa ?_
     rcases Ae aK with⟨a0,aK⟩|⟨a0,aK⟩
     ·refine Al f Z a0 ?_
      refine Af ?_
      refine Ac f Z λa f=>Aa ?_
      refine Ax ?_
      have m:Mem W aI w H:=Mem.drop (H':=[aB]) m
      obtain rfl:=sj aK
      obtain rfl:=aL _ rfl
      obtain rfl:=sj ah
      obtain rfl:=ai _ rfl
      obtain rfl:=sj hd
      exact⟨[(.bool false)],f.g Z,f.d,_,[],(gt aj (gt ay aM)),m,Z,Z⟩
     ·refine Aj f Z a0 ?_
      refine Am ?_
      refine Ap ?_
      refine Ai f Z Z Az λa f=>Ab f Z λa f=>Aa ?_
      obtain rfl:=sj aK
      exact⟨_,Z,_,Z,_,aM,f.k Z,m⟩
    ·refine Aj f Z aN ?_
     refine AE Z ?_
     have m:Mem W aI w H:=Mem.drop (H':=[aB]) m
     obtain rfl:=sj aK
     obtain rfl:=aL _ rfl
     exact⟨_,Z,_,aM,f.k Z,m⟩
   ·rintro a w ⟨_,rfl,aF,a1,f,m⟩
    refine Ap ?_
    refine Ai f Z Z Az λa f=>Ab f Z λa f=>Aa ?_
    obtain rfl:=sj ah
    exact⟨_,Z,_,Z,_,(gt aj (gt ay a1)),f.k Z,m⟩
  ·refine Aj f Z ak ?_
   refine AE Z ?_
   obtain rfl:=sj ah
   obtain rfl:=ai _ rfl
   exact⟨_,Z,_,aj,f.weak trivial,m⟩
 ·rintro a w ⟨_,rfl,ac,a2,f,m⟩
  refine Af ?_
  refine Ac f Z λa f=>Aa ?_
  refine Ax ?_
  obtain rfl:=sj hd
  exact⟨[(.bool true)],f.g Z,f.d,_,[],a2,m,Z,Z⟩
theorem Wk.e0 {aa v1:Value}{ab x1:LL}(hW:Cs W)(m:Mem W G w (H))(ac:R2 G aa ab)(h1:R2 G v1 x1){y:Bool}(hd:D.e0 ab x1=some y):
  Calls prog 41 #[(.agg #[aa]),v1] w (Res W G H (λ_ Ho v=>Ho=[]∧v=(.bool y))):=by
 refine AB (args:=[(.agg #[aa]),v1]) (N:=13) [.tmp 4] func41 Z Z (lb Z) Z λa f=> ?_
 unfold D.e0 at hd
 refine Af ?_
 refine BB (cs:=[aa]) m f Z Z Z λad w a m f=>Ac f Z λa f=>AG ?_
 refine AW 0 0 (ds:=[aa]) m Bv f Z Z Z Z Z λa f=>Ab f Z λa f=> ?_
 have⟨ae,af,hd⟩:=bind_some hd
 refine Bk f Z call42 (Wk.I hW m ac h1 af) λag w ah m a f=> ?_
 have h1:=rd2 ah h1
 refine Ab f Z λa f=> ?_
 have⟨ai,aj,hd⟩:=bind_some hd
 refine Bo 4 (λa w=>∃ak,GLe ag ak∧Mem W ak w (ib ad 29 [aa]::H)∧Fr a 13 [(0,(.agg #[aa])),(1,v1),(2,(pb ad)),(5,(.agg #[aa])),(6,v1),(7,(.bool ae)),(8,(.bool ae)),(12,(.bool ai))]) ?_ ?_
 ·rcases Ae aj with⟨al,aj⟩|⟨al,aj⟩
  ·refine Ar f al ?_
   refine Ab f Z λa f=>Ar f al ?_
   have⟨am,an,aj⟩:=bind_some aj
   refine A5 f Z call102 (Wk.v m h1 an) λao ap aq w ar m au a f=> ?_
   obtain⟨av,aw,rfl,rfl,ax⟩:=au
   refine Ar f al ?_
   have⟨ay,az,aj⟩:=bind_some aj
   refine A5 f Z call101 (Ow.lendCall (RI.mono _) 0 ax m Z (λaA aB m aC=>Wk.q0 hW m aC az) (λ_ _ _ _ h=>h)) λaD aE aF w aG m aH a f=> ?_
   obtain⟨rfl,rfl⟩:=aH
   refine l_o f (AT (f.e Z) al (f.e Z)) λa f=> ?_
   obtain rfl:=sj aj
   have m:=m.fr 1
   have m:=m.eraseAt 1
   exact⟨_,(gt ar aG),m,f.k Z⟩
  ·refine As f al λa f=> ?_
   refine As f al λa f=>As f al λa f=>l_o f (AS (f.e Z) al (f.e Z)) λa f=> ?_
   obtain rfl:=sj aj
   exact⟨_,gr,m,f.k Z⟩
 ·rintro a w ⟨ak,aI,m,f⟩
  refine Ac f Z λa f=>Aa ?_
  refine Ax ?_
  have m:Mem W ak w H:=Mem.drop (H':=[ib ad 29 [aa]]) m
  obtain rfl:=sj hd
  exact⟨[(.bool ai)],f.g Z,f.d,_,[],(gt ah aI),m,Z,Z⟩
theorem Wk.h0 {aa:Value}{ab:LL}{x1 x2:Int}(m:Mem W G w (H))(ac:R2 G aa ab){y:Bool}(hd:D.h0 ab x1 x2=some y):
  Calls prog 106 #[(.agg #[aa]),(iv x1),(iv x2)] w (Res W G H (λ_ Ho v=>Ho=[]∧v=(.bool y))):=by
 refine AB (args:=[(.agg #[aa]),(iv x1),(iv x2)]) (N:=22) [.tmp 6] func106 Z Z (lb Z) Z λa f=> ?_
 unfold D.h0 at hd
 refine Af ?_
 refine BB (cs:=[aa]) m f Z Z Z λad w a m f=>Ac f Z λa f=>AG ?_
 refine Ab f Z λa f=>Bp underlying29 Z sizeOf27 f Z λa f=>AM 0 0 m BL f Z Z Z Z λa f=>A6 underlying27 f Z Z ac λa f=>Ai f Z Z A3 λa f=> ?_
 have⟨ae,af,hd⟩:=bind_some hd
 refine Bk f Z call105 (Wk.c m af) λag w ah m a f=> ?_
 have ac:=rd2 ah ac
 refine Ab f Z λa f=> ?_
 have⟨ai,aj,hd⟩:=bind_some hd
 refine Bo 8 (λa w=>∃ak,GLe ag ak∧Mem W ak w (ib ad 29 [aa]::H)∧Fr a 22 [(0,(.agg #[aa])),(1,(iv x1)),(2,(iv x2)),(3,(pb ad)),(7,(iv x1)),(8,(pb ad)),(9,aa),(10,(iv (ab.length:Int))),(11,(iv (i64.wrap ((ab.length:Int)-1)))),(12,(.bool ae)),(13,(.bool ae)),(21,(.bool ai))]) ?_ ?_
 ·rcases Ae aj with⟨al,aj⟩|⟨al,aj⟩
  ·refine Ar f al ?_
   refine Bp underlying29 Z sizeOf27 f Z λa f=>Ar f al ?_
   refine AM 0 0 m BL f Z Z Z Z λa f=>Ar f al ?_
   refine Ab f Z λa f=>Ar f al ?_
   have⟨am,an,aj⟩:=bind_some aj
   refine Bi T27 f Z Z Z ac an λao ap a aq ar f=>Ar f al ?_
   refine AH m Bj f Z Z aq λa f=>Ar f al ?_
   refine Ab f Z λa f=>Ar f al ?_
   have⟨au,av,aj⟩:=bind_some aj
   refine Bk f Z call115 (Wk.d m ar av) λaw w ax m a f=>l_o f (AT (f.e Z) al (f.e Z)) λa f=> ?_
   obtain rfl:=sj aj
   exact⟨_,ax,m,f.k Z⟩
  ·refine As f al λa f=> ?_
   refine As f al λa f=>As f al λa f=>As f al λa f=>As f al λa f=>As f al λa f=>As f al λa f=>l_o f (AS (f.e Z) al (f.e Z)) λa f=> ?_
   obtain rfl:=sj aj
   exact⟨_,gr,m,f.k Z⟩
 ·rintro a w ⟨ak,ay,m,f⟩
  refine Ac f Z λa f=>Aa ?_
  refine Ax ?_
  have m:Mem W ak w H:=Mem.drop (H':=[ib ad 29 [aa]]) m
  obtain rfl:=sj hd
  exact⟨[(.bool ai)],f.g Z,f.d,_,[],(gt ah ay),m,Z,Z⟩
theorem Wk.w0 {v0 v1:Value}{x0 x1:LI}(m:Mem W G w (H))(h0:R1 G v0 x0)(h1:R1 G v1 x1){y:Bool}(hd:D.w0 x0 x1=some y):
  Calls prog 158 #[v0,v1] w (Res W G H (λ_ Ho v=>Ho=[]∧v=(.bool y))):=by
 refine AB (args:=[v0,v1]) (N:=41) [.tmp 4] func158 Z Z (lb Z) Z λa f=> ?_
 unfold D.w0 at hd
 refine Af ?_
 refine Ac f Z λa f=>Aa (Ag (Af ?_))
 refine Ac f Z λa f=>Aa ?_
 have⟨aa,ab,hd⟩:=bind_some hd
 refine AN (λa w=>∃q_69':Unit,aa= .inl q_69'∧∃(ac:GH),GLe G ac∧Fr a 41 [(0,v0),(1,v1)]∧Mem W ac w (H)) ?_ ?_
 ·refine Ak ?_
  refine AI (λad a w=>∃ae:Int,ae=ad∧∃(af:GH),GLe G af∧Fr a 41 [(0,v0),(1,v1),(5,(iv ae))]∧Mem W af w (H)) ab ⟨_,Z,_,gr,f.k Z,m⟩ ?_
  clear ab f m
  rintro ad ag ah ai a w ⟨ae,rfl,af,aj,f,m⟩
  have h0:=rd1 aj h0
  have h1:=rd1 aj h1
  refine Ag (Af ?_)
  refine Ab f Z λa f=>Ab f Z λa f=>A6 underlying31 f Z Z h0 λa f=>Ai f Z Z AP λa f=>Ab f Z λa f=> ?_
  refine Bo 5 (λa w=>∃ak,GLe af ak∧Mem W ak w (H)∧Fr a 41 [(0,v0),(1,v1),(5,(iv ae)),(6,(iv ae)),(7,v0),(8,(iv (x0.length:Int))),(9,(.bool (decide (ae<(x0.length:Int))))),(10,(.bool (decide (ae<(x0.length:Int))))),(15,(.bool ((decide (ae<(x0.length:Int)))&&(decide (ae<(x1.length:Int))))))]) ?_ ?_
  ·rcases Bool.eq_false_or_eq_true (decide (ae<(x0.length:Int))) with al|al
   ·refine Ar f al ?_
    refine Ab f Z λa f=>Ar f al ?_
    refine Ab f Z λa f=>Ar f al ?_
    refine A6 underlying31 f Z Z h1 λa f=>Ar f al ?_
    refine Ai f Z Z AP λa f=>l_o f (AT (f.e Z) al (f.e Z)) λa f=> ?_
    exact⟨_,gr,m,f.weak ⟨Z,Z,Z,Z,Z,Z,Z,Z,by rw[al];rfl,trivial⟩⟩
   ·refine As f al λa f=> ?_
    refine As f al λa f=>As f al λa f=>As f al λa f=>l_o f (AS (f.e Z) al (f.e Z)) λa f=> ?_
    exact⟨_,gr,m,f.weak ⟨Z,Z,Z,Z,Z,Z,Z,Z,by rw[al];rfl,trivial⟩⟩
  ·rintro a w ⟨ak,am,m,f⟩
   have h0:=rd1 am h0
   have h1:=rd1 am h1
   refine Aa ?_
   rcases Ae ah with⟨an,ah⟩|⟨an,ah⟩
   ·refine Al f Z an ?_
    refine Am ?_
    refine Ag (Ak (Ag ?_))
    refine A9 9 AJ (by kernel_rfl) m ?_
    refine Ah 0 9 Z f Z λa f=>Ah 1 9 Z f Z λa f=> ?_
    have⟨ao,ap,ah⟩:=bind_some ah
    refine Bl 2 9 T31 h0 ap Z f Z Z λaq ar a au av f=> ?_
    subst av
    refine Bm 3 9 Pl2 au Z f Z λa f=>Ah 4 9 Z f Z λa f=>Ah 5 9 Z f Z λa f=> ?_
    have⟨aw,ax,ah⟩:=bind_some ah
    refine Bl 6 9 T31 h1 ax Z f Z Z λay az a aA aB f=> ?_
    subst aB
    refine Bm 7 9 Pl2 aA Z f Z λa f=>q_p 8 9 Z f (λ_=>AL (f.e Z) (f.e Z) Cy) λa f=>AZ λaC w aD m=> ?_
    have h0:=rd1 aD h0
    have h1:=rd1 aD h1
    refine Aa ?_
    rcases Ae ah with⟨aE,ah⟩|⟨aE,ah⟩
    ·refine Al f Z aE ?_
     refine Ag ?_
     refine A9 10 AJ (by kernel_rfl) m ?_
     refine Ah 0 10 Z f Z λa f=>Ah 1 10 Z f Z λa f=> ?_
     have⟨aF,aG,ah⟩:=bind_some ah
     refine Bl 2 10 T31 h0 aG Z f Z Z λaH aI a aJ aK f=> ?_
     subst aK
     refine Bm 3 10 Pl2 aJ Z f Z λa f=>Ah 4 10 Z f Z λa f=>Ah 5 10 Z f Z λa f=> ?_
     have⟨aL,aM,ah⟩:=bind_some ah
     refine Bl 6 10 T31 h1 aM Z f Z Z λaN aO a aP aQ f=> ?_
     subst aQ
     refine Bm 7 10 Pl2 aP Z f Z λa f=>q_p 8 10 Z f (λ_=>AL (f.e Z) (f.e Z) AP) λa f=>q_p 9 10 Z f (λ_=>Cc (f.e Z)) λa f=>AZ λaR w aS m=>Aa ?_
     refine Ax ?_
     obtain rfl:=sj ah
     obtain rfl:=ai _ rfl
     obtain rfl:=sj hd
     exact⟨[(.bool (decide (aF<aL)))],f.g Z,f.d,_,[],(gt aj (gt am (gt aD aS))),m,Z,Z⟩
    ·refine Aj f Z aE ?_
     refine Am ?_
     refine Ap ?_
     refine Ab f Z λa f=>Ai f Z Z Az λa f=>Ac f Z λa f=>Aa ?_
     obtain rfl:=sj ah
     exact⟨_,Z,_,Z,_,(gt aj (gt am aD)),f.k Z,m⟩
   ·refine Aj f Z an ?_
    refine AE Z ?_
    obtain rfl:=sj ah
    obtain rfl:=ai _ rfl
    exact⟨_,Z,_,(gt aj am),f.k Z,m⟩
 ·rintro a w ⟨_,rfl,ac,aT,f,m⟩
  have h0:=rd1 aT h0
  have h1:=rd1 aT h1
  refine Af ?_
  refine Ab f Z λa f=>A6 underlying31 f Z Z h0 λa f=>Ab f Z λa f=>A6 underlying31 f Z Z h1 λa f=>Ai f Z Z AP λa f=>Ac f Z λa f=>Aa ?_
  refine Ax ?_
  obtain rfl:=sj hd
  exact⟨[(.bool (decide ((x0.length:Int)<(x1.length:Int))))],f.g Z,f.d,_,[],aT,m,Z,Z⟩
theorem Wk.m0 {v0 v1:Value}{x0 x1:LI}(m:Mem W G w (H))(h0:R1 G v0 x0)(h1:R1 G v1 x1){y:Bool}(hd:D.m0 x0 x1=some y):
  Calls prog 159 #[v0,v1] w (Res W G H (λ_ Ho v=>Ho=[]∧v=(.bool y))):=by
 refine AB (args:=[v0,v1]) (N:=26) [.tmp 4] func159 Z Z (lb Z) Z λa f=> ?_
 unfold D.m0 at hd
 refine Af ?_
 refine Ac f Z λa f=>Aa (Ag (Af ?_))
 refine Ab f Z λa f=>A6 underlying31 f Z Z h0 λa f=>Ab f Z λa f=>A6 underlying31 f Z Z h1 λa f=>Ai f Z Z Cy λa f=>Aa ?_
 rcases Ae hd with⟨aa,hd⟩|⟨aa,hd⟩
 ·refine Al f Z aa ?_
  refine Af ?_
  refine Ac f Z λa f=>Aa ?_
  refine Ax ?_
  obtain rfl:=sj hd
  exact⟨[(.bool false)],f.g Z,f.d,_,[],gr,m,Z,Z⟩
 ·refine Aj f Z aa ?_
  refine Am ?_
  refine Ag (Af ?_)
  refine Ac f Z λa f=>Aa ?_
  have⟨ab,ac,hd⟩:=bind_some hd
  refine AN (λa w=>∃q_36':Unit,ab= .inl q_36'∧∃(ad:GH),GLe G ad∧Fr a 26 []∧Mem W ad w (H)) ?_ ?_
  ·refine Ak ?_
   refine AI (λae a w=>∃af:Int,af=ae∧∃(ag:GH),GLe G ag∧Fr a 26 [(0,v0),(1,v1),(5,(iv af))]∧Mem W ag w (H)) ac ⟨_,Z,_,gr,f.k Z,m⟩ ?_
   clear ac f m
   rintro ae ah ai aj a w ⟨af,rfl,ag,ak,f,m⟩
   have h0:=rd1 ak h0
   have h1:=rd1 ak h1
   refine Ag (Af ?_)
   refine Ab f Z λa f=>Ab f Z λa f=>A6 underlying31 f Z Z h0 λa f=>Ai f Z Z AP λa f=>Aa ?_
   rcases Ae ai with⟨al,ai⟩|⟨al,ai⟩
   ·refine Al f Z al ?_
    refine Am ?_
    refine Ag (Ak (Ag ?_))
    refine A9 9 AJ (by kernel_rfl) m ?_
    refine Ah 0 9 Z f Z λa f=>Ah 1 9 Z f Z λa f=> ?_
    have⟨am,an,ai⟩:=bind_some ai
    refine Bl 2 9 T31 h0 an Z f Z Z λao ap a aq ar f=> ?_
    subst ar
    refine Bm 3 9 Pl2 aq Z f Z λa f=>Ah 4 9 Z f Z λa f=>Ah 5 9 Z f Z λa f=> ?_
    have⟨au,av,ai⟩:=bind_some ai
    refine Bl 6 9 T31 h1 av Z f Z Z λaw ax a ay az f=> ?_
    subst az
    refine Bm 7 9 Pl2 ay Z f Z λa f=>q_p 8 9 Z f (λ_=>AL (f.e Z) (f.e Z) Cy) λa f=>AZ λaA w aB m=>Aa ?_
    rcases Ae ai with⟨aC,ai⟩|⟨aC,ai⟩
    ·refine Al f Z aC ?_
     refine Af ?_
     refine Ac f Z λa f=>Aa ?_
     refine Ax ?_
     obtain rfl:=sj ai
     obtain rfl:=aj _ rfl
     obtain rfl:=sj hd
     exact⟨[(.bool false)],f.g Z,f.d,_,[],(gt ak aB),m,Z,Z⟩
    ·refine Aj f Z aC ?_
     refine Am ?_
     refine Ap ?_
     refine Ab f Z λa f=>Ai f Z Z Az λa f=>Ac f Z λa f=>Aa ?_
     obtain rfl:=sj ai
     exact⟨_,Z,_,Z,_,(gt ak aB),f.k Z,m⟩
   ·refine Aj f Z al ?_
    refine AE Z ?_
    obtain rfl:=sj ai
    obtain rfl:=aj _ rfl
    exact⟨_,Z,_,ak,f.weak trivial,m⟩
  ·rintro a w ⟨_,rfl,ad,aD,f,m⟩
   refine Af ?_
   refine Ac f Z λa f=>Aa ?_
   refine Ax ?_
   obtain rfl:=sj hd
   exact⟨[(.bool true)],f.g Z,f.d,_,[],aD,m,Z,Z⟩
theorem Wk.p {v0 v1:Value}{x0:LL}{x1:LI}(m:Mem W G w (H))(h0:R2 G v0 x0)(h1:R1 G v1 x1){y:(LL)}(hd:D.p x0 x1=some y):
  Calls prog 137 #[v0,v1] w (Res W G H (λG' Ho v=>∃r0:Value,Ho=[]∧r0=v∧R2 G' r0 y)):=by
 refine AB (args:=[v0,v1]) (N:=48) [.tmp 4] func137 Z Z (lb Z) Z λa f=> ?_
 unfold D.p at hd
 refine Af ?_
 refine Ac f Z λa f=>AG ?_
 refine Ac f Z λa f=>Aa (Ag ?_)
 have⟨aa,ab,hd⟩:=bind_some hd
 refine AN (λa w=>∃ac:Int,ac=aa∧∃(ad:GH),GLe G ad∧Fr a 48 [(0,v0),(1,v1),(5,(iv ac))]∧Mem W ad w (H)) ?_ ?_
 ·refine Ak ?_
  refine AI (λae a w=>∃af:Int,af=ae∧∃(ag:GH),GLe G ag∧Fr a 48 [(0,v0),(1,v1),(5,(iv af))]∧Mem W ag w (H)) ab ⟨_,Z,_,gr,f.k Z,m⟩ ?_
  clear ab f m
  rintro ae ah ai aj a w ⟨af,rfl,ag,ak,f,m⟩
  have h0:=rd2 ak h0
  have h1:=rd1 ak h1
  refine Ag (Af ?_)
  refine Ab f Z λa f=>Ab f Z λa f=>A6 underlying27 f Z Z h0 λa f=>Ai f Z Z AP λa f=>Ab f Z λa f=> ?_
  have⟨al,am,ai⟩:=bind_some ai
  refine Bo 7 (λa w=>∃an,GLe ag an∧Mem W an w (H)∧Fr a 48 [(0,v0),(1,v1),(5,(iv af)),(7,(iv af)),(8,v0),(9,(iv (x0.length:Int))),(10,(.bool (decide (af<(x0.length:Int))))),(11,(.bool (decide (af<(x0.length:Int))))),(18,(.bool al))]) ?_ ?_
  ·rcases Ae am with⟨ao,am⟩|⟨ao,am⟩
   ·refine Ar f ao ?_
    refine Ab f Z λa f=>Ar f ao ?_
    refine Ab f Z λa f=>Ar f ao ?_
    have⟨ap,aq,am⟩:=bind_some am
    refine Bi T27 f Z Z Z h0 aq λar au a av aw f=>Ar f ao ?_
    refine AH m Bj f Z Z av λa f=>Ar f ao ?_
    refine Ab f Z λa f=>Ar f ao ?_
    have⟨ax,ay,am⟩:=bind_some am
    refine Bk f Z call158 (Wk.w0 m aw h1 ay) λaz w aA m a f=>l_o f (AT (f.e Z) ao (f.e Z)) λa f=> ?_
    obtain rfl:=sj am
    exact⟨_,aA,m,f.k Z⟩
   ·refine As f ao λa f=> ?_
    refine As f ao λa f=>As f ao λa f=>As f ao λa f=>As f ao λa f=>As f ao λa f=>l_o f (AS (f.e Z) ao (f.e Z)) λa f=> ?_
    obtain rfl:=sj am
    exact⟨_,gr,m,f.k Z⟩
  ·rintro a w ⟨an,aB,m,f⟩
   refine Aa ?_
   rcases Ae ai with⟨aC,ai⟩|⟨aC,ai⟩
   ·refine Al f Z aC ?_
    refine Am ?_
    refine Ak (Ap ?_)
    refine Ab f Z λa f=>Ai f Z Z Az λa f=>Ac f Z λa f=>Aa ?_
    obtain rfl:=sj ai
    exact⟨_,Z,_,Z,_,(gt ak aB),f.k Z,m⟩
   ·refine Aj f Z aC ?_
    refine AE Z ?_
    obtain rfl:=sj ai
    obtain rfl:=aj _ rfl
    exact⟨_,Z,_,(gt ak aB),f.k Z,m⟩
 ·rintro a w ⟨ac,rfl,ad,aD,f,m⟩
  have h0:=rd2 aD h0
  have h1:=rd1 aD h1
  refine Ag (Af ?_)
  refine Ab f Z λa f=>Ab f Z λa f=>A6 underlying27 f Z Z h0 λa f=>Ai f Z Z AP λa f=>Ab f Z λa f=> ?_
  have⟨aE,aF,hd⟩:=bind_some hd
  refine Bo 7 (λa w=>∃aG,GLe ad aG∧Mem W aG w (H)∧Fr a 48 [(0,v0),(1,v1),(5,(iv ac)),(21,(iv ac)),(22,v0),(23,(iv (x0.length:Int))),(24,(.bool (decide (ac<(x0.length:Int))))),(25,(.bool (decide (ac<(x0.length:Int))))),(32,(.bool aE))]) ?_ ?_
  ·rcases Ae aF with⟨aH,aF⟩|⟨aH,aF⟩
   ·refine Ar f aH ?_
    refine Ab f Z λa f=>Ar f aH ?_
    refine Ab f Z λa f=>Ar f aH ?_
    have⟨aI,aJ,aF⟩:=bind_some aF
    refine Bi T27 f Z Z Z h0 aJ λaK aL a aM aN f=>Ar f aH ?_
    refine AH m Bj f Z Z aM λa f=>Ar f aH ?_
    refine Ab f Z λa f=>Ar f aH ?_
    have⟨aO,aP,aF⟩:=bind_some aF
    refine Bk f Z call159 (Wk.m0 m aN h1 aP) λaQ w aR m a f=>l_o f (AT (f.e Z) aH (f.e Z)) λa f=> ?_
    obtain rfl:=sj aF
    exact⟨_,aR,m,f.k Z⟩
   ·refine As f aH λa f=> ?_
    refine As f aH λa f=>As f aH λa f=>As f aH λa f=>As f aH λa f=>As f aH λa f=>l_o f (AS (f.e Z) aH (f.e Z)) λa f=> ?_
    obtain rfl:=sj aF
    exact⟨_,gr,m,f.k Z⟩
  ·rintro a w ⟨aG,aS,m,f⟩
   have h0:=rd2 aS h0
   have h1:=rd1 aS h1
   refine Aa ?_
   rcases Ae hd with⟨aT,hd⟩|⟨aT,hd⟩
   ·refine Al f Z aT ?_
    refine Af ?_
    refine Ab f Z λa f=>Ac f Z λa f=>Aa ?_
    refine Ax ?_
    obtain rfl:=sj hd
    exact⟨[v0],f.g Z,f.d,_,[],(gt aD aS),m,_,Z,Z,h0⟩
   ·refine Aj f Z aT ?_
    refine Am ?_
    refine Af ?_
    refine By (R:=R1) (xs:=([]:LL)) (RSl.one _) m T27 f Z Z Z (by decide) (All2.nil _) λaU aV w a m aW f=>Ab f Z λa f=>Ab f Z λa f=> ?_
    have⟨aX,aY,hd⟩:=bind_some hd
    refine EO T27 f Z Z h0 (.inl ⟨Z,Z⟩) (.inr ⟨_,_,Z,Z⟩) aY λaZ a a0 f=> ?_
    have⟨a1,a2,hd⟩:=bind_some hd
    refine BR (RSl.one _) 0 m aW Z T27 Z (by decide) f Z Z Z (a0.src m) a2 λa3 a4 w a m a5 f=>Ac f Z λa f=>AG ?_
    refine Ab f Z λa f=>Ab f Z λa f=>By (R:=R1) (xs:=([x1]:LL)) (RSl.one _) m T27 f Z Z Z (by decide) (All2.cons h1 (All2.nil _)) λa6 a7 w a m a8 f=> ?_
    have⟨a9,ba,hd⟩:=bind_some hd
    refine BR (RSl.one _) 1 m a5 Z T27 Z (by decide) f Z Z Z (Ow.src (j:=0) a8 m Z) ba λbb bc w a m bd f=>Ac f Z λa f=>AG ?_
    refine Ab f Z λa f=>Ab f Z λa f=>Ab f Z λa f=> ?_
    have⟨be,bf,hd⟩:=bind_some hd
    refine EO T27 f Z Z h0 (.inr ⟨_,_,Z,Z⟩) (.inl ⟨Z,Z⟩) bf λbg a bh f=> ?_
    have⟨bi,bj,hd⟩:=bind_some hd
    refine BR (RSl.one _) 1 m bd Z T27 Z (by decide) f Z Z Z (bh.src m) bj λbk bl w a m bm f=>Ac f Z λa f=>Aa ?_
    refine Ax ?_
    have m:=m.fr 1
    obtain⟨bn,bo,m,bp⟩:=Ow.stamp (RSl.mono (RI.mono _)) bm m
    have m:Mem W bn w H:=Mem.drop (H':=[a6]) m
    obtain rfl:=sj hd
    exact⟨[bl],f.g Z,f.d,_,[],(gt aD (gt aS bo)),m,_,Z,Z,bp⟩
theorem Wk.i0 {aa:Value}{ab:LL}{x1 x2:Int}(m:Mem W G w (H))(ac:R2 G aa ab){y:(LL)}(hd:D.i0 ab x1 x2=some y):
  Calls prog 107 #[(.agg #[aa]),(iv x1),(iv x2)] w (Res W G H (λG' Ho v=>∃r0:Value,Ho=[]∧r0=v∧R2 G' r0 y)):=by
 refine AB (args:=[(.agg #[aa]),(iv x1),(iv x2)]) (N:=86) [.tmp 6] func107 Z Z (lb Z) Z λa f=> ?_
 unfold D.i0 at hd
 refine Af ?_
 refine BB (cs:=[aa]) m f Z Z Z λad w a m f=>Ac f Z λa f=>AG ?_
 refine By (R:=R1) (xs:=([]:LL)) (RSl.one _) m T27 f Z Z Z (by decide) (All2.nil _) λae af w a m ag f=>Ac f Z λa f=>Aa (Ag (Af ?_))
 refine Ac f Z λa f=>Aa ?_
 obtain⟨ah,ai,m,aj⟩:=Ow.stamp (RSl.mono (RI.mono _)) ag m
 have ac:=rd2 ai ac
 have⟨ak,al,hd⟩:=bind_some hd
 refine AN (λa w=>∃am:LL,am=ak∧∃(an:GH) (ao:Value),GLe ah an∧Fr a 86 [(1,(iv x1)),(2,(iv x2)),(3,(pb ad)),(7,ao)]∧Mem W an w (ib ad 29 [aa]::H)∧R2 an ao am) ?_ ?_
 ·refine Ak ?_
  refine AI (λap a w=>∃aq:LL,∃ar:Int,(aq,ar)=ap∧∃(au:GH) (av:Value),GLe ah au∧Fr a 86 [(1,(iv x1)),(2,(iv x2)),(3,(pb ad)),(7,av),(8,(iv ar))]∧Mem W au w (ib ad 29 [aa]::H)∧R2 au av aq) al ⟨_,_,Z,_,af,gr,f.k Z,m,aj⟩ ?_
  clear al f m
  rintro ap aw ax ay a w ⟨aq,ar,rfl,au,av,az,f,m,aA⟩
  have ac:=rd2 az ac
  refine Ag (Af ?_)
  refine Ab f Z λa f=>Bp underlying29 Z sizeOf27 f Z λa f=>AM 0 0 m BL f Z Z Z Z λa f=>Ab f Z λa f=> ?_
  have⟨aB,aC,ax⟩:=bind_some ax
  refine Bi T27 f Z Z Z ac aC λaD aE a aF aG f=>AH m Bj f Z Z aF λa f=>A6 underlying31 f Z Z aG λa f=>Ai f Z Z AP λa f=>Aa ?_
  rcases Ae ax with⟨aH,ax⟩|⟨aH,ax⟩
  ·refine Al f Z aH ?_
   refine Am ?_
   refine Ag (Ak (Af ?_))
   refine Bp underlying29 Z sizeOf27 f Z λa f=>AM 0 0 m BL f Z Z Z Z λa f=>Ab f Z λa f=> ?_
   have⟨aI,aJ,ax⟩:=bind_some ax
   refine Bi T27 f Z Z Z ac aJ λaK aL a aM aN f=>AH m Bj f Z Z aM λa f=>Ab f Z λa f=> ?_
   have⟨aO,aP,ax⟩:=bind_some ax
   refine Bi T31 f Z Z Z aN aP λaQ aR a aS aT f=> ?_
   subst aT
   refine AH m Pl2 f Z Z aS λa f=>Ac f Z λa f=>AG ?_
   refine Ab f Z λa f=>Ab f Z λa f=>Ai f Z Z Cy λa f=>Ab f Z λa f=> ?_
   have⟨aU,aV,ax⟩:=bind_some ax
   refine Bo 9 (λa w=>∃aW,GLe au aW∧Mem W aW w (ib ad 29 [aa]::H)∧Fr a 86 [(1,(iv x1)),(2,(iv x2)),(3,(pb ad)),(7,av),(8,(iv ar)),(9,(iv aO)),(31,(iv aO)),(32,(iv x2)),(33,(.bool (aO !=x2))),(34,(.bool (aO !=x2))),(43,(.bool aU))]) ?_ ?_
   ·rcases Ae aV with⟨aX,aV⟩|⟨aX,aV⟩
    ·refine Ar f aX ?_
     refine Bp underlying29 Z sizeOf27 f Z λa f=>Ar f aX ?_
     refine AM 0 0 m BL f Z Z Z Z λa f=>Ar f aX ?_
     refine Ab f Z λa f=>Ar f aX ?_
     have⟨aY,aZ,aV⟩:=bind_some aV
     refine Bi T27 f Z Z Z ac aZ λa0 a1 a a2 a3 f=>Ar f aX ?_
     refine AH m Bj f Z Z a2 λa f=>Ar f aX ?_
     refine Ab f Z λa f=>Ar f aX ?_
     have⟨a4,a5,aV⟩:=bind_some aV
     refine Bk f Z call115 (Wk.d m a3 a5) λa6 w a7 m a f=>Ar f aX ?_
     refine l_o f (Bn (f.e Z)) λa f=>l_o f (AT (f.e Z) aX (f.e Z)) λa f=> ?_
     obtain rfl:=sj aV
     exact⟨_,a7,m,f.k Z⟩
    ·refine As f aX λa f=> ?_
     refine As f aX λa f=>As f aX λa f=>As f aX λa f=>As f aX λa f=>As f aX λa f=>As f aX λa f=>As f aX λa f=>l_o f (AS (f.e Z) aX (f.e Z)) λa f=> ?_
     obtain rfl:=sj aV
     exact⟨_,gr,m,f.k Z⟩
   ·rintro a w ⟨aW,a8,m,f⟩
    have aA:=rd2 a8 aA
    refine Aa ?_
    rcases Ae ax with⟨a9,ax⟩|⟨a9,ax⟩
    ·refine Al f Z a9 ?_
     refine Ap ?_
     refine Ab f Z λa f=>Ab f Z λa f=>Ab f Z λa f=>By (R:=R0) (xs:=([x1,aO]:LI)) (RI.one _) m T31 f Z Z Z (by decide) (All2.cons Z (All2.cons Z (All2.nil _))) λba bb w a m bc f=> ?_
     obtain⟨bd,be,m,bf⟩:=Ow.stamp (RI.mono _) bc m
     have aA:=rd2 be aA
     have⟨bg,bh,ax⟩:=bind_some ax
     refine A5 f Z call137 (Wk.p m aA bf bh) λbi bj bk w bl m bm a f=> ?_
     obtain⟨bn,rfl,rfl,bo⟩:=bm
     refine Ac f Z λa f=>Aa (Ap ?_)
     refine Ab f Z λa f=>Ai f Z Z Az λa f=>Ac f Z λa f=>Aa ?_
     obtain rfl:=sj ax
     exact⟨_,Z,_,_,Z,_,bn,(gt az (gt a8 (gt be bl))),f.k Z,m,bo⟩
    ·refine Aj f Z a9 ?_
     refine Am ?_
     refine Ap ?_
     refine Ab f Z λa f=>Ai f Z Z Az λa f=>Ac f Z λa f=>Aa ?_
     obtain rfl:=sj ax
     exact⟨_,Z,_,_,Z,_,av,(gt az a8),f.k Z,m,aA⟩
  ·refine Aj f Z aH ?_
   refine AE Z ?_
   obtain rfl:=sj ax
   obtain rfl:=ay _ rfl
   exact⟨_,Z,_,av,az,f.k Z,m,aA⟩
 ·rintro a w ⟨am,rfl,an,ao,bp,f,m,bq⟩
  have ac:=rd2 bp ac
  refine Ag (Af ?_)
  refine Ac f Z λa f=>Aa ?_
  have⟨br,bs,hd⟩:=bind_some hd
  refine AN (λa w=>∃bt:LL,bt=br∧∃(bu:GH) (bv:Value),GLe an bu∧Fr a 86 [(7,bv)]∧Mem W bu w (H)∧R2 bu bv bt) ?_ ?_
  ·refine Ak ?_
   refine AI (λbw a w=>∃bx:LL,∃bz:Int,(bx,bz)=bw∧∃(bA:GH) (bB:Value),GLe an bA∧Fr a 86 [(1,(iv x1)),(2,(iv x2)),(3,(pb ad)),(7,bB),(10,(iv bz))]∧Mem W bA w (ib ad 29 [aa]::H)∧R2 bA bB bx) bs ⟨_,_,Z,_,ao,gr,f.k Z,m,bq⟩ ?_
   clear bs f m
   rintro bw bC bD bE a w ⟨bx,bz,rfl,bA,bB,bF,f,m,bG⟩
   have ac:=rd2 bF ac
   refine Ag (Af ?_)
   refine Ab f Z λa f=>Bp underlying29 Z sizeOf27 f Z λa f=>AM 0 0 m BL f Z Z Z Z λa f=>Ab f Z λa f=> ?_
   have⟨bH,bI,bD⟩:=bind_some bD
   refine Bi T27 f Z Z Z ac bI λbJ bK a bL bM f=>AH m Bj f Z Z bL λa f=>A6 underlying31 f Z Z bM λa f=>Ai f Z Z AP λa f=>Aa ?_
   rcases Ae bD with⟨bN,bD⟩|⟨bN,bD⟩
   ·refine Al f Z bN ?_
    refine Am ?_
    refine Ag (Ak (Af ?_))
    refine Bp underlying29 Z sizeOf27 f Z λa f=>AM 0 0 m BL f Z Z Z Z λa f=>Ab f Z λa f=> ?_
    have⟨bO,bP,bD⟩:=bind_some bD
    refine Bi T27 f Z Z Z ac bP λbQ bR a bS bT f=>AH m Bj f Z Z bS λa f=>Ab f Z λa f=> ?_
    have⟨bU,bV,bD⟩:=bind_some bD
    refine Bi T31 f Z Z Z bT bV λbW bX a bY bZ f=> ?_
    subst bZ
    refine AH m Pl2 f Z Z bY λa f=>Ac f Z λa f=>AG ?_
    refine Ab f Z λa f=>Ab f Z λa f=>Ai f Z Z Cy λa f=>Ab f Z λa f=> ?_
    have⟨b0,b1,bD⟩:=bind_some bD
    refine Bo 9 (λa w=>∃b2,GLe bA b2∧Mem W b2 w (ib ad 29 [aa]::H)∧Fr a 86 [(1,(iv x1)),(2,(iv x2)),(3,(pb ad)),(7,bB),(10,(iv bz)),(11,(iv bU)),(67,(iv bU)),(68,(iv x1)),(69,(.bool (bU !=x1))),(70,(.bool (bU !=x1))),(79,(.bool b0))]) ?_ ?_
    ·rcases Ae b1 with⟨b3,b1⟩|⟨b3,b1⟩
     ·refine Ar f b3 ?_
      refine Bp underlying29 Z sizeOf27 f Z λa f=>Ar f b3 ?_
      refine AM 0 0 m BL f Z Z Z Z λa f=>Ar f b3 ?_
      refine Ab f Z λa f=>Ar f b3 ?_
      have⟨b4,b5,b1⟩:=bind_some b1
      refine Bi T27 f Z Z Z ac b5 λb6 b7 a b8 b9 f=>Ar f b3 ?_
      refine AH m Bj f Z Z b8 λa f=>Ar f b3 ?_
      refine Ab f Z λa f=>Ar f b3 ?_
      have⟨ca,cb,b1⟩:=bind_some b1
      refine Bk f Z call115 (Wk.d m b9 cb) λcc w cd m a f=>Ar f b3 ?_
      refine l_o f (Bn (f.e Z)) λa f=>l_o f (AT (f.e Z) b3 (f.e Z)) λa f=> ?_
      obtain rfl:=sj b1
      exact⟨_,cd,m,f.k Z⟩
     ·refine As f b3 λa f=> ?_
      refine As f b3 λa f=>As f b3 λa f=>As f b3 λa f=>As f b3 λa f=>As f b3 λa f=>As f b3 λa f=>As f b3 λa f=>l_o f (AS (f.e Z) b3 (f.e Z)) λa f=> ?_
      obtain rfl:=sj b1
      exact⟨_,gr,m,f.k Z⟩
    ·rintro a w ⟨b2,ce,m,f⟩
     have bG:=rd2 ce bG
     refine Aa ?_
     rcases Ae bD with⟨cf,bD⟩|⟨cf,bD⟩
     ·refine Al f Z cf ?_
      refine Ap ?_
      refine Ab f Z λa f=>Ab f Z λa f=>Ab f Z λa f=>By (R:=R0) (xs:=([bU,x2]:LI)) (RI.one _) m T31 f Z Z Z (by decide) (All2.cons Z (All2.cons Z (All2.nil _))) λcg ch w a m ci f=> ?_
      obtain⟨cj,ck,m,cl⟩:=Ow.stamp (RI.mono _) ci m
      have bG:=rd2 ck bG
      have⟨cm,cn,bD⟩:=bind_some bD
      refine A5 f Z call137 (Wk.p m bG cl cn) λco cp cq w cr m ct a f=> ?_
      obtain⟨cu,rfl,rfl,cv⟩:=ct
      refine Ac f Z λa f=>Aa (Ap ?_)
      refine Ab f Z λa f=>Ai f Z Z Az λa f=>Ac f Z λa f=>Aa ?_
      obtain rfl:=sj bD
      exact⟨_,Z,_,_,Z,_,cu,(gt bF (gt ce (gt ck cr))),f.k Z,m,cv⟩
     ·refine Aj f Z cf ?_
      refine Am ?_
      refine Ap ?_
      refine Ab f Z λa f=>Ai f Z Z Az λa f=>Ac f Z λa f=>Aa ?_
      obtain rfl:=sj bD
      exact⟨_,Z,_,_,Z,_,bB,(gt bF ce),f.k Z,m,bG⟩
   ·refine Aj f Z bN ?_
    refine AE Z ?_
    have m:Mem W bA w H:=Mem.drop (H':=[ib ad 29 [aa]]) m
    obtain rfl:=sj bD
    obtain rfl:=bE _ rfl
    exact⟨_,Z,_,bB,bF,f.k Z,m,bG⟩
  ·rintro a w ⟨bt,rfl,bu,bv,cw,f,m,cx⟩
   refine Af ?_
   refine Ab f Z λa f=>Ac f Z λa f=>Aa ?_
   refine Ax ?_
   obtain rfl:=sj hd
   exact⟨[bv],f.g Z,f.d,_,[],(gt ai (gt bp cw)),m,_,Z,Z,cx⟩
theorem Wk.r0 {v0:Value}{x0:LL}{x1 x2:Int}(m:Mem W G w (H))(h0:R2 G v0 x0){y:Bool}(hd:D.r0 x0 x1 x2=some y):
  Calls prog 89 #[v0,(iv x1),(iv x2)] w (Res W G H (λ_ Ho v=>Ho=[]∧v=(.bool y))):=by
 refine AB (args:=[v0,(iv x1),(iv x2)]) (N:=32) [.tmp 6] func89 Z Z (lb Z) Z λa f=> ?_
 unfold D.r0 at hd
 refine Af ?_
 refine Ac f Z λa f=>Aa (Ag (Af ?_))
 refine Ac f Z λa f=>Aa ?_
 have⟨aa,ab,hd⟩:=bind_some hd
 refine AN (λa w=>∃q_113':Unit,aa= .inl q_113'∧∃(ac:GH),GLe G ac∧Fr a 32 []∧Mem W ac w (H)) ?_ ?_
 ·refine Ak ?_
  refine AI (λad a w=>∃ae:Int,ae=ad∧∃(af:GH),GLe G af∧Fr a 32 [(0,v0),(1,(iv x1)),(2,(iv x2)),(7,(iv ae))]∧Mem W af w (H)) ab ⟨_,Z,_,gr,f.k Z,m⟩ ?_
  clear ab f m
  rintro ad ag ah ai a w ⟨ae,rfl,af,aj,f,m⟩
  have h0:=rd2 aj h0
  refine Ag (Af ?_)
  refine Ab f Z λa f=>Ab f Z λa f=>A6 underlying27 f Z Z h0 λa f=>Ai f Z Z AP λa f=>Aa ?_
  rcases Ae ah with⟨ak,ah⟩|⟨ak,ah⟩
  ·refine Al f Z ak ?_
   refine Am ?_
   refine Ag (Ak (Af ?_))
   refine Ab f Z λa f=>Ab f Z λa f=> ?_
   have⟨al,am,ah⟩:=bind_some ah
   refine Bi T27 f Z Z Z h0 am λan ao a ap aq f=>AH m Bj f Z Z ap λa f=> ?_
   have⟨ar,au,ah⟩:=bind_some ah
   refine Bi T31 f Z Z Z aq au λav aw a ax ay f=> ?_
   subst ay
   refine AH m Pl2 f Z Z ax λa f=>Ab f Z λa f=>Ai f Z Z BZ λa f=>Ab f Z λa f=> ?_
   have⟨az,aA,ah⟩:=bind_some ah
   refine Bo 9 (λa w=>∃aB,GLe af aB∧Mem W aB w (H)∧Fr a 32 [(0,v0),(1,(iv x1)),(2,(iv x2)),(7,(iv ae)),(11,(.bool (decide (ae<(x0.length:Int))))),(14,v0),(15,(iv ae)),(16,an),(17,ao),(18,av),(19,(iv ar)),(20,(iv x1)),(21,(.bool (ar==x1))),(22,(.bool (ar==x1))),(31,(.bool az))]) ?_ ?_
   ·rcases Ae aA with⟨aC,aA⟩|⟨aC,aA⟩
    ·refine Ar f aC ?_
     refine Ab f Z λa f=>Ar f aC ?_
     refine Ab f Z λa f=>Ar f aC ?_
     have⟨aD,aE,aA⟩:=bind_some aA
     refine Bi T27 f Z Z Z h0 aE λaF aG a aH aI f=>Ar f aC ?_
     refine AH m Bj f Z Z aH λa f=>Ar f aC ?_
     have⟨aJ,aK,aA⟩:=bind_some aA
     refine Bi T31 f Z Z Z aI aK λaL aM a aN aO f=> ?_
     subst aO
     refine Ar f aC ?_
     refine AH m Pl2 f Z Z aN λa f=>Ar f aC ?_
     refine Ab f Z λa f=>Ar f aC ?_
     refine Ai f Z Z BZ λa f=>l_o f (AT (f.e Z) aC (f.e Z)) λa f=> ?_
     obtain rfl:=sj aA
     exact⟨_,gr,m,f.k Z⟩
    ·refine As f aC λa f=> ?_
     refine As f aC λa f=>As f aC λa f=>As f aC λa f=>As f aC λa f=>As f aC λa f=>As f aC λa f=>As f aC λa f=>l_o f (AS (f.e Z) aC (f.e Z)) λa f=> ?_
     obtain rfl:=sj aA
     exact⟨_,gr,m,f.k Z⟩
   ·rintro a w ⟨aB,aP,m,f⟩
    refine Aa ?_
    rcases Ae ah with⟨aQ,ah⟩|⟨aQ,ah⟩
    ·refine Al f Z aQ ?_
     refine Af ?_
     refine Ac f Z λa f=>Aa ?_
     refine Ax ?_
     obtain rfl:=sj ah
     obtain rfl:=ai _ rfl
     obtain rfl:=sj hd
     exact⟨[(.bool true)],f.g Z,f.d,_,[],(gt aj aP),m,Z,Z⟩
    ·refine Aj f Z aQ ?_
     refine Am ?_
     refine Ap ?_
     refine Ab f Z λa f=>Ai f Z Z Az λa f=>Ac f Z λa f=>Aa ?_
     obtain rfl:=sj ah
     exact⟨_,Z,_,Z,_,(gt aj aP),f.k Z,m⟩
  ·refine Aj f Z ak ?_
   refine AE Z ?_
   obtain rfl:=sj ah
   obtain rfl:=ai _ rfl
   exact⟨_,Z,_,aj,f.weak trivial,m⟩
 ·rintro a w ⟨_,rfl,ac,aR,f,m⟩
  refine Af ?_
  refine Ac f Z λa f=>Aa ?_
  refine Ax ?_
  obtain rfl:=sj hd
  exact⟨[(.bool false)],f.g Z,f.d,_,[],aR,m,Z,Z⟩
theorem Wk.V {aa v1:Value}{ab x1:LL}(m:Mem W G w (H))(ac:R2 G aa ab)(h1:R2 G v1 x1){y:Bool}(hd:D.V ab x1=some y):
  Calls prog 43 #[(.agg #[aa]),v1] w (Res W G H (λ_ Ho v=>Ho=[]∧v=(.bool y))):=by
 refine AB (args:=[(.agg #[aa]),v1]) (N:=105) [.tmp 4] func43 Z Z (lb Z) Z λa f=> ?_
 unfold D.V at hd
 refine Af ?_
 refine BB (cs:=[aa]) m f Z Z Z λad w a m f=>Ac f Z λa f=>Aa (Ag (Af ?_))
 refine AW 0 0 (ds:=[aa]) m Bv f Z Z Z Z Z λa f=> ?_
 have⟨ae,af,hd⟩:=bind_some hd
 refine Bk f Z call48 (Wk.J m ac af) λag w ah m a f=> ?_
 have ac:=rd2 ah ac
 have h1:=rd2 ah h1
 refine l_o f (Bn (f.e Z)) λa f=>Ab f Z λa f=> ?_
 have⟨ai,aj,hd⟩:=bind_some hd
 refine Bo 5 (λa w=>∃ak,GLe ag ak∧Mem W ak w (ib ad 29 [aa]::H)∧Fr a 105 [(0,(.agg #[aa])),(1,v1),(2,(pb ad)),(7,(.agg #[aa])),(8,(.bool ae)),(9,(.bool (!ae))),(10,(.bool (!ae))),(15,(.bool ai))]) ?_ ?_
 ·rcases Ae aj with⟨al,aj⟩|⟨al,aj⟩
  ·refine As f al λa f=> ?_
   refine As f al λa f=>As f al λa f=>As f al λa f=>l_o f (AT (f.e Z) al (f.e Z)) λa f=> ?_
   obtain rfl:=sj aj
   exact⟨_,gr,m,f.k Z⟩
  ·refine Ar f al ?_
   refine Ab f Z λa f=>Ar f al ?_
   refine A6 underlying27 f Z Z h1 λa f=>Ar f al ?_
   have⟨am,an,aj⟩:=bind_some aj
   refine Bk f Z call105 (Wk.c m an) λao w ap m a f=>Ar f al ?_
   refine l_o f (Bn (f.e Z)) λa f=>l_o f (AS (f.e Z) al (f.e Z)) λa f=> ?_
   obtain rfl:=sj aj
   exact⟨_,ap,m,f.k Z⟩
 ·rintro a w ⟨ak,aq,m,f⟩
  have ac:=rd2 aq ac
  have h1:=rd2 aq h1
  refine Aa ?_
  rcases Ae hd with⟨ar,hd⟩|⟨ar,hd⟩
  ·refine Al f Z ar ?_
   refine Af ?_
   refine Ac f Z λa f=>Aa ?_
   refine Ax ?_
   have m:Mem W ak w H:=Mem.drop (H':=[ib ad 29 [aa]]) m
   obtain rfl:=sj hd
   exact⟨[(.bool false)],f.g Z,f.d,_,[],(gt ah aq),m,Z,Z⟩
  ·refine Aj f Z ar ?_
   refine Am ?_
   refine Ag (Af ?_)
   refine Ac f Z λa f=>Aa ?_
   have⟨au,av,hd⟩:=bind_some hd
   refine AN (λa w=>∃q_313':Unit,au= .inl q_313'∧∃(aw:GH),GLe ak aw∧Fr a 105 [(1,v1)]∧Mem W aw w (H)) ?_ ?_
   ·refine Ak ?_
    refine AI (λax a w=>∃ay:Int,ay=ax∧∃(az:GH),GLe ak az∧Fr a 105 [(1,v1),(2,(pb ad)),(5,(iv ay))]∧Mem W az w (ib ad 29 [aa]::H)) av ⟨_,Z,_,gr,f.k Z,m⟩ ?_
    clear av f m
    rintro ax aA aB aC a w ⟨ay,rfl,az,aD,f,m⟩
    have h1:=rd2 aD h1
    have ac:=rd2 aD ac
    refine Ag (Af ?_)
    refine Ab f Z λa f=>Ab f Z λa f=>A6 underlying27 f Z Z h1 λa f=>Ai f Z Z AP λa f=>Aa ?_
    rcases Ae aB with⟨aE,aB⟩|⟨aE,aB⟩
    ·refine Al f Z aE ?_
     refine Am ?_
     refine Ag (Ak (Ag (Ag ?_)))
     refine A9 23 AJ (by kernel_rfl) m ?_
     refine Ah 0 23 Z f Z λa f=>Ah 1 23 Z f Z λa f=> ?_
     have⟨aF,aG,aB⟩:=bind_some aB
     refine Bl 2 23 T27 h1 aG Z f Z Z λaH aI a aJ aK f=>Bm 3 23 Bj aJ Z f Z λa f=>q_len (i:=4) 23 underlying31 aK Z (by kernel_rfl) Z f Z Z Z λa f=>q_p 5 23 Z f (λ_=>AL (f.e Z) (f.e Z) Cy) λa f=>Ah 6 23 Z f Z λa f=> ?_
     have⟨aL,aM,aB⟩:=bind_some aB
     refine Cf (fuel':=0) (listed':= #[true,true,true,true,true,true,true,true,true,true,true,true,true,true,true,true,true,true,true,true,true,true,true]) (λa=>Fr a 105 [(1,v1),(2,(pb ad)),(5,(iv ay)),(19,(.bool (decide (ay<(x1.length:Int))))),(22,v1),(23,(iv ay)),(24,aH),(25,aI),(26,(iv (aF.length:Int))),(27,(.bool ((aF.length:Int) !=2))),(28,(.bool ((aF.length:Int) !=2))),(44,(.bool aL))]) ?_ ?_
     ·intro a f
      refine AZ λaN w aO m=> ?_
      have h1:=rd2 aO h1
      have ac:=rd2 aO ac
      refine Aa ?_
      rcases Ae aB with⟨aP,aB⟩|⟨aP,aB⟩
      ·refine Al f Z aP ?_
       refine Af ?_
       refine Ac f Z λa f=>Aa ?_
       refine Ax ?_
       have m:Mem W aN w H:=Mem.drop (H':=[ib ad 29 [aa]]) m
       obtain rfl:=sj aB
       obtain rfl:=aC _ rfl
       obtain rfl:=sj hd
       exact⟨[(.bool false)],f.g Z,f.d,_,[],(gt ah (gt aq (gt aD aO))),m,Z,Z⟩
      ·refine Aj f Z aP ?_
       refine Am ?_
       refine Ag ?_
       refine A9 34 AJ (by kernel_rfl) m ?_
       refine Ah 0 34 Z f Z λa f=>q_p 1 34 Z f (λ_=>AL (f.e Z) (f.e Z) Cx) λa f=>Ah 2 34 Z f Z λa f=> ?_
       rcases Ae aB with⟨aQ,aB⟩|⟨aQ,aB⟩
       ·refine Cd (i:=3) (ds:=[aa]) 34 0 Bv Z Z Z Z (by kernel_rfl) Z f (Ay f Z Z Z aQ) Z Z λa f=> ?_
        refine Ah (hw:=wo f aQ) 4 34 Z f Z λa f=>Ah (hw:=wo f aQ) 5 34 Z f Z λa f=>q_p (hw:=wo f aQ) 6 34 Z f (λ_=>AL (f.e Z) (f.e Z) A3) λa f=> ?_
        have⟨aR,aS,aB⟩:=bind_some aB
        refine Bl (hw:=wo f aQ) 7 34 T27 h1 aS Z f Z Z λaT aU a aV aW f=>Bm (hw:=wo f aQ) 8 34 Bj aV Z f Z λa f=> ?_
        have⟨aX,aY,aB⟩:=bind_some aB
        refine Bl (hw:=wo f aQ) 9 34 T31 aW aY Z f Z Z λaZ a0 a a1 a2 f=> ?_
        subst a2
        refine Bm (hw:=wo f aQ) 10 34 Pl2 a1 Z f Z λa f=>Ah (hw:=wo f aQ) 11 34 Z f Z λa f=>Ah (hw:=wo f aQ) 12 34 Z f Z λa f=>q_p (hw:=wo f aQ) 13 34 Z f (λ_=>AL (f.e Z) (f.e Z) A3) λa f=> ?_
        have⟨a3,a4,aB⟩:=bind_some aB
        refine Bl (hw:=wo f aQ) 14 34 T27 h1 a4 Z f Z Z λa5 a6 a a7 a8 f=>Bm (hw:=wo f aQ) 15 34 Bj a7 Z f Z λa f=> ?_
        have⟨a9,ba,aB⟩:=bind_some aB
        refine Bl (hw:=wo f aQ) 16 34 T31 a8 ba Z f Z Z λbb bc a bd be f=> ?_
        subst be
        refine Bm (hw:=wo f aQ) 17 34 Pl2 bd Z f Z λa f=>Ah (hw:=wo f aQ) 19 34 Z f Z λa f=>Ah (hw:=wo f aQ) 20 34 Z f Z λa f=> ?_
        have⟨bf,bg,aB⟩:=bind_some aB
        refine Bl (hw:=wo f aQ) 21 34 T27 h1 bg Z f Z Z λbh bi a bj bk f=>Bm (hw:=wo f aQ) 22 34 Bj bj Z f Z λa f=> ?_
        have⟨bl,bm,aB⟩:=bind_some aB
        refine Bl (hw:=wo f aQ) 23 34 T31 bk bm Z f Z Z λbn bo a bp bq f=> ?_
        subst bq
        refine Bm (hw:=wo f aQ) 24 34 Pl2 bp Z f Z λa f=>Ah (hw:=wo f aQ) 25 34 Z f Z λa f=>Ah (hw:=wo f aQ) 26 34 Z f Z λa f=> ?_
        have⟨br,bs,aB⟩:=bind_some aB
        refine Bl (hw:=wo f aQ) 27 34 T27 h1 bs Z f Z Z λbt bu a bv bw f=>Bm (hw:=wo f aQ) 28 34 Bj bv Z f Z λa f=> ?_
        have⟨bx,bz,aB⟩:=bind_some aB
        refine Bl (hw:=wo f aQ) 29 34 T31 bw bz Z f Z Z λbA bB a bC bD f=> ?_
        subst bD
        refine Bm (hw:=wo f aQ) 30 34 Pl2 bC Z f Z λa f=>Di 18 Z λbE w bF m bG bG=> ?_
        have ac:=rd2 bF ac
        refine Ar f aQ ?_
        have⟨bH,bI,aB⟩:=bind_some aB
        refine A5 f Z call107 (Wk.i0 m ac bI) λbJ bK bL w bM m bN a f=> ?_
        obtain⟨bO,rfl,rfl,bP⟩:=bN
        refine Aa ?_
        refine bG bK [] _ _ bM m ?_
        have⟨bQ,bR,aB⟩:=bind_some aB
        refine B8 (i:=31) 34 Z (by kernel_rfl) Z f (Ay f Z Z Z aQ) Z Z call89 (λ_ _ w bS m=>Wk.r0 m (rd2 bS bP) bR) λa f=>q_p (hw:=wo f aQ) 32 34 Z f (λ_=>Bn (f.e Z)) λa f=>q_p 33 34 Z f (λ_=>AT (f.e Z) aQ (f.e Z)) λa f=>AZ λbT w bU m=>Aa ?_
        rcases Ae aB with⟨bV,aB⟩|⟨bV,aB⟩
        ·refine Al f Z bV ?_
         refine Af ?_
         refine Ac f Z λa f=>Aa ?_
         refine Ax ?_
         have m:Mem W bT w H:=Mem.drop (H':=[ib ad 29 [aa]]) m
         obtain rfl:=sj aB
         obtain rfl:=aC _ rfl
         obtain rfl:=sj hd
         exact⟨[(.bool false)],f.g Z,f.d,_,[],(gt ah (gt aq (gt aD (gt aO (gt bF (gt bM bU)))))),m,Z,Z⟩
        ·refine Aj f Z bV ?_
         refine Am ?_
         refine Ap ?_
         refine Ab f Z λa f=>Ai f Z Z Az λa f=>Ac f Z λa f=>Aa ?_
         obtain rfl:=sj aB
         exact⟨_,Z,_,Z,_,(gt aD (gt aO (gt bF (gt bM bU)))),f.k Z,m⟩
       ·refine Aq 3 34 Z f aQ λa f=> ?_
        refine Aq 4 34 Z f aQ λa f=>Aq 5 34 Z f aQ λa f=>Aq 6 34 Z f aQ λa f=>Aq 7 34 Z f aQ λa f=>Aq 8 34 Z f aQ λa f=>Aq 9 34 Z f aQ λa f=>Aq 10 34 Z f aQ λa f=>Aq 11 34 Z f aQ λa f=>Aq 12 34 Z f aQ λa f=>Aq 13 34 Z f aQ λa f=>Aq 14 34 Z f aQ λa f=>Aq 15 34 Z f aQ λa f=>Aq 16 34 Z f aQ λa f=>Aq 17 34 Z f aQ λa f=>Aq 18 34 Z f aQ λa f=>Aq 19 34 Z f aQ λa f=>Aq 20 34 Z f aQ λa f=>Aq 21 34 Z f aQ λa f=>Aq 22 34 Z f aQ λa f=>Aq 23 34 Z f aQ λa f=>Aq 24 34 Z f aQ λa f=>Aq 25 34 Z f aQ λa f=>Aq 26 34 Z f aQ λa f=>Aq 27 34 Z f aQ λa f=>Aq 28 34 Z f aQ λa f=>Aq 29 34 Z f aQ λa f=>Aq 30 34 Z f aQ λa f=>Aq 31 34 Z f aQ λa f=>Aq 32 34 Z f aQ λa f=>q_p 33 34 Z f (λ_=>AS (f.e Z) aQ (f.e Z)) λa f=> ?_
        refine AZ λbW w bX m=>Aa ?_
        refine Aj f Z Z ?_
        refine Am ?_
        refine Ap ?_
        refine Ab f Z λa f=>Ai f Z Z Az λa f=>Ac f Z λa f=>Aa ?_
        obtain rfl:=sj aB
        exact⟨_,Z,_,Z,_,(gt aD (gt aO bX)),f.k Z,m⟩
     ·intro bY
      rcases Ae aM with⟨bZ,aM⟩|⟨bZ,aM⟩
      ·refine Aq 7 23 Z f bZ λa f=> ?_
       refine Aq 8 23 Z f bZ λa f=>Aq 9 23 Z f bZ λa f=>Aq 10 23 Z f bZ λa f=>Aq 11 23 Z f bZ λa f=>Aq 12 23 Z f bZ λa f=>Aq 13 23 Z f bZ λa f=>Aq 14 23 Z f bZ λa f=>Aq 15 23 Z f bZ λa f=>Aq 16 23 Z f bZ λa f=>Aq 17 23 Z f bZ λa f=>Aq 18 23 Z f bZ λa f=>Aq 19 23 Z f bZ λa f=>Aq 20 23 Z f bZ λa f=>Aq 21 23 Z f bZ λa f=>q_p 22 23 Z f (λ_=>AT (f.e Z) bZ (f.e Z)) λa f=> ?_
       obtain rfl:=sj aM
       exact bY _ (f.k Z)
      ·refine Cd (i:=7) (ds:=[aa]) 23 0 Bv Z Z Z Z (by kernel_rfl) Z f (Ay f Z Z Z bZ) Z Z λa f=> ?_
       refine Ah (hw:=wo f bZ) 8 23 Z f Z λa f=>Ah (hw:=wo f bZ) 9 23 Z f Z λa f=> ?_
       have⟨b0,b1,aM⟩:=bind_some aM
       refine Bl (hw:=wo f bZ) 10 23 T27 h1 b1 Z f Z Z λb2 b3 a b4 b5 f=>Bm (hw:=wo f bZ) 11 23 Bj b4 Z f Z λa f=> ?_
       have⟨b6,b7,aM⟩:=bind_some aM
       refine Bl (hw:=wo f bZ) 12 23 T31 b5 b7 Z f Z Z λb8 b9 a ca cb f=> ?_
       subst cb
       refine Bm (hw:=wo f bZ) 13 23 Pl2 ca Z f Z λa f=>Ah (hw:=wo f bZ) 14 23 Z f Z λa f=>Ah (hw:=wo f bZ) 15 23 Z f Z λa f=> ?_
       have⟨cc,cd,aM⟩:=bind_some aM
       refine Bl (hw:=wo f bZ) 16 23 T27 h1 cd Z f Z Z λce cf a cg ch f=>Bm (hw:=wo f bZ) 17 23 Bj cg Z f Z λa f=> ?_
       have⟨ci,cj,aM⟩:=bind_some aM
       refine Bl (hw:=wo f bZ) 18 23 T31 ch cj Z f Z Z λck cl a cm cn f=> ?_
       subst cn
       refine Bm (hw:=wo f bZ) 19 23 Pl2 cm Z f Z λa f=> ?_
       have⟨co,cp,aM⟩:=bind_some aM
       refine B8 (i:=20) 23 Z (by kernel_rfl) Z f (Ay f Z Z Z bZ) Z Z call106 (λ_ _ w cq m=>Wk.h0 m (rd2 cq ac) cp) λa f=>q_p (hw:=wo f bZ) 21 23 Z f (λ_=>Bn (f.e Z)) λa f=>q_p 22 23 Z f (λ_=>AS (f.e Z) bZ (f.e Z)) λa f=> ?_
       obtain rfl:=sj aM
       exact bY _ (f.k Z)
    ·refine Aj f Z aE ?_
     refine AE Z ?_
     have m:Mem W az w H:=Mem.drop (H':=[ib ad 29 [aa]]) m
     obtain rfl:=sj aB
     obtain rfl:=aC _ rfl
     exact⟨_,Z,_,aD,f.k Z,m⟩
   ·rintro a w ⟨_,rfl,aw,cr,f,m⟩
    have h1:=rd2 cr h1
    refine Af ?_
    refine Ab f Z λa f=>Ab f Z λa f=>A6 underlying27 f Z Z h1 λa f=>Ai f Z Z A3 λa f=> ?_
    have⟨ct,cu,hd⟩:=bind_some hd
    refine Bi T27 f Z Z Z h1 cu λcv cw a cx cy f=>AH m Bj f Z Z cx λa f=>Ac f Z λa f=>Aa (Ag ?_)
    refine A9 21 AJ (by kernel_rfl) m ?_
    refine Ah 0 21 Z f Z λa f=> ?_
    have⟨cz,cA,hd⟩:=bind_some hd
    refine Bl 1 21 T31 cy cA Z f Z Z λcB cC a cD cE f=> ?_
    subst cE
    refine Bm 2 21 Pl2 cD Z f Z λa f=>Ah 3 21 Z f Z λa f=> ?_
    have⟨cF,cG,hd⟩:=bind_some hd
    refine Bl 4 21 T27 h1 cG Z f Z Z λcH cI a cJ cK f=>Bm 5 21 Bj cJ Z f Z λa f=> ?_
    have⟨cL,cM,hd⟩:=bind_some hd
    refine Bl 6 21 T31 cK cM Z f Z Z λcN cO a cP cQ f=> ?_
    subst cQ
    refine Bm 7 21 Pl2 cP Z f Z λa f=>q_p 8 21 Z f (λ_=>AL (f.e Z) (f.e Z) BZ) λa f=>Ah 9 21 Z f Z λa f=> ?_
    have⟨cR,cS,hd⟩:=bind_some hd
    refine Cf (fuel':=1) (listed':= #[true,true,true,true,true,true,true,true,true,true,true,true,true,true,true,true,true,true,true,true,false]) (λa=>Fr a 105 [(1,v1),(6,cw),(85,cw),(86,cB),(87,(iv cz)),(88,v1),(89,cH),(90,cI),(91,cN),(92,(iv cL)),(93,(.bool (cz==cL))),(94,(.bool (cz==cL))),(104,(.bool cR))]) ?_ ?_
    ·intro a f
     refine q_p 20 21 Z f (λ_=>Cc (f.e Z)) λa f=>AZ λcT w cU m=>Aa ?_
     refine Ax ?_
     obtain rfl:=sj hd
     exact⟨[(.bool cR)],f.g Z,f.d,_,[],(gt ah (gt aq (gt cr cU))),m,Z,Z⟩
    ·intro cV
     rcases Ae cS with⟨cW,cS⟩|⟨cW,cS⟩
     ·refine Ah (hw:=wo f cW) 10 21 Z f Z λa f=> ?_
      have⟨cX,cY,cS⟩:=bind_some cS
      refine Bl (hw:=wo f cW) 11 21 T31 cy cY Z f Z Z λcZ c0 a c1 c2 f=> ?_
      subst c2
      refine Bm (hw:=wo f cW) 12 21 Pl2 c1 Z f Z λa f=>Ah (hw:=wo f cW) 13 21 Z f Z λa f=> ?_
      have⟨c3,c4,cS⟩:=bind_some cS
      refine Bl (hw:=wo f cW) 14 21 T27 h1 c4 Z f Z Z λc5 c6 a c7 c8 f=>Bm (hw:=wo f cW) 15 21 Bj c7 Z f Z λa f=> ?_
      have⟨c9,da,cS⟩:=bind_some cS
      refine Bl (hw:=wo f cW) 16 21 T31 c8 da Z f Z Z λdb dc a dd de f=> ?_
      subst de
      refine Bm (hw:=wo f cW) 17 21 Pl2 dd Z f Z λa f=>q_p (hw:=wo f cW) 18 21 Z f (λ_=>AL (f.e Z) (f.e Z) BZ) λa f=>q_p 19 21 Z f (λ_=>AT (f.e Z) cW (f.e Z)) λa f=> ?_
      obtain rfl:=sj cS
      exact cV _ (f.k Z)
     ·refine Aq 10 21 Z f cW λa f=> ?_
      refine Aq 11 21 Z f cW λa f=>Aq 12 21 Z f cW λa f=>Aq 13 21 Z f cW λa f=>Aq 14 21 Z f cW λa f=>Aq 15 21 Z f cW λa f=>Aq 16 21 Z f cW λa f=>Aq 17 21 Z f cW λa f=>Aq 18 21 Z f cW λa f=>q_p 19 21 Z f (λ_=>AS (f.e Z) cW (f.e Z)) λa f=> ?_
      obtain rfl:=sj cS
      exact cV _ (f.k Z)
theorem Wk.O0 {aa:Value}{ab:LL}{x1:Int}(m:Mem W G w (H))(ac:R2 G aa ab){y:Bool}(hd:D.O0 ab x1=some y):
  Calls prog 61 #[(.agg #[aa]),(iv x1)] w (Res W G H (λ_ Ho v=>Ho=[]∧v=(.bool y))):=by
 refine AB (args:=[(.agg #[aa]),(iv x1)]) (N:=15) [.tmp 4] func61 Z Z (lb Z) Z λa f=> ?_
 unfold D.O0 at hd
 refine Af ?_
 refine BB (cs:=[aa]) m f Z Z Z λad w a m f=>Ac f Z λa f=>AG ?_
 refine AW 0 0 (ds:=[aa]) m Bv f Z Z Z Z Z λa f=> ?_
 have⟨ae,af,hd⟩:=bind_some hd
 refine Bk f Z call50 (Wk.h m ac af) λag w ah m a f=> ?_
 have ac:=rd2 ah ac
 refine Ab f Z λa f=> ?_
 have⟨ai,aj,hd⟩:=bind_some hd
 refine Bo 7 (λa w=>∃ak,GLe ag ak∧Mem W ak w (ib ad 29 [aa]::H)∧Fr a 15 [(0,(.agg #[aa])),(1,(iv x1)),(2,(pb ad)),(5,(.agg #[aa])),(6,(.bool ae)),(7,(.bool ae)),(14,(.bool ai))]) ?_ ?_
 ·rcases Ae aj with⟨al,aj⟩|⟨al,aj⟩
  ·refine Ar f al ?_
   refine Ab f Z λa f=>Ar f al ?_
   refine Bp underlying29 Z sizeOf27 f Z λa f=>Ar f al ?_
   refine AM 0 0 m BL f Z Z Z Z λa f=>Ar f al ?_
   refine A6 underlying27 f Z Z ac λa f=>Ar f al ?_
   refine Ai f Z Z A3 λa f=>Ar f al ?_
   have⟨am,an,aj⟩:=bind_some aj
   refine Bk f Z call123 (Wk.U m an) λao w ap m a f=>l_o f (AT (f.e Z) al (f.e Z)) λa f=> ?_
   obtain rfl:=sj aj
   exact⟨_,ap,m,f.k Z⟩
  ·refine As f al λa f=> ?_
   refine As f al λa f=>As f al λa f=>As f al λa f=>As f al λa f=>As f al λa f=>l_o f (AS (f.e Z) al (f.e Z)) λa f=> ?_
   obtain rfl:=sj aj
   exact⟨_,gr,m,f.k Z⟩
 ·rintro a w ⟨ak,aq,m,f⟩
  refine Ac f Z λa f=>Aa ?_
  refine Ax ?_
  have m:Mem W ak w H:=Mem.drop (H':=[ib ad 29 [aa]]) m
  obtain rfl:=sj hd
  exact⟨[(.bool ai)],f.g Z,f.d,_,[],(gt ah aq),m,Z,Z⟩
end Go.Proofs.YtmkcbhidbdggiaaDoor

set_option maxRecDepth 100000
namespace Go.Proofs.YtmkcbhidbdggiaaDoor
open Go Go.Sx
open Go.Proofs.Tryd Go.Proofs.YtmkcbhidbdggiaaDoor.Tryd IntKind
variable {W w : World} {G : GH} {H : List Itm}
theorem Wk.y0 {aa:Value}{ab:LL}{x1 x2:Int}(m:Mem W G w (H))(ac:R2 G aa ab){y:Bool}(hd:D.y0 ab x1 x2=some y):
  Calls prog 108 #[(.agg #[aa]),(iv x1),(iv x2)] w (Res W G H (λ_ Ho v=>Ho=[]∧v=(.bool y))):=by
 refine AB (args:=[(.agg #[aa]),(iv x1),(iv x2)]) (N:=19) [.tmp 6] func108 Z Z (lb Z) Z λa f=> ?_
 unfold D.y0 at hd
 refine Af ?_
 refine BB (cs:=[aa]) m f Z Z Z λad w a m f=>Ac f Z λa f=>AG ?_
 refine AW 0 0 (ds:=[aa]) m Bv f Z Z Z Z Z λa f=>Ab f Z λa f=> ?_
 have⟨ae,af,hd⟩:=bind_some hd
 refine Bk f Z call61 (Wk.O0 m ac af) λag w ah m a f=> ?_
 have ac:=rd2 ah ac
 refine Ab f Z λa f=> ?_
 have⟨ai,aj,hd⟩:=bind_some hd
 refine Bo 8 (λa w=>∃ak,GLe ag ak∧Mem W ak w (ib ad 29 [aa]::H)∧Fr a 19 [(0,(.agg #[aa])),(1,(iv x1)),(2,(iv x2)),(3,(pb ad)),(7,(.agg #[aa])),(8,(iv x1)),(9,(.bool ae)),(10,(.bool ae)),(18,(.bool ai))]) ?_ ?_
 ·rcases Ae aj with⟨al,aj⟩|⟨al,aj⟩
  ·refine Ar f al ?_
   refine Bp underlying29 Z sizeOf27 f Z λa f=>Ar f al ?_
   refine AM 0 0 m BL f Z Z Z Z λa f=>Ar f al ?_
   refine Ab f Z λa f=>Ar f al ?_
   have⟨am,an,aj⟩:=bind_some aj
   refine Bi T27 f Z Z Z ac an λao ap a aq ar f=>Ar f al ?_
   refine AH m Bj f Z Z aq λa f=>Ar f al ?_
   refine Ab f Z λa f=>Ar f al ?_
   have⟨au,av,aj⟩:=bind_some aj
   refine Bk f Z call119 (Wk.r m ar av) λaw w ax m a f=>l_o f (AT (f.e Z) al (f.e Z)) λa f=> ?_
   obtain rfl:=sj aj
   exact⟨_,ax,m,f.k Z⟩
  ·refine As f al λa f=> ?_
   refine As f al λa f=>As f al λa f=>As f al λa f=>As f al λa f=>As f al λa f=>As f al λa f=>l_o f (AS (f.e Z) al (f.e Z)) λa f=> ?_
   obtain rfl:=sj aj
   exact⟨_,gr,m,f.k Z⟩
 ·rintro a w ⟨ak,ay,m,f⟩
  refine Ac f Z λa f=>Aa ?_
  refine Ax ?_
  have m:Mem W ak w H:=Mem.drop (H':=[ib ad 29 [aa]]) m
  obtain rfl:=sj hd
  exact⟨[(.bool ai)],f.g Z,f.d,_,[],(gt ah ay),m,Z,Z⟩
theorem Wk.o {aa v1:Value}{ab x1:LL}(hW:Cs W)(m:Mem W G w (H))(ac:R2 G aa ab)(h1:R2 G v1 x1){y:Bool}(hd:D.o ab x1=some y):
  Calls prog 44 #[(.agg #[aa]),v1] w (Res W G H (λ_ Ho v=>Ho=[]∧v=(.bool y))):=by
 refine AB (args:=[(.agg #[aa]),v1]) (N:=86) [.tmp 4] func44 Z Z (lb Z) Z λa f=> ?_
 unfold D.o at hd
 refine Af ?_
 refine BB (cs:=[aa]) m f Z Z Z λad w a m f=>Ac f Z λa f=>AG ?_
 refine Ab f Z λa f=>A6 underlying27 f Z Z h1 λa f=>Ac f Z λa f=>Aa (Ag (Af ?_))
 refine AW 0 0 (ds:=[aa]) m Bv f Z Z Z Z Z λa f=> ?_
 have⟨ae,af,hd⟩:=bind_some hd
 refine Bk f Z call50 (Wk.h m ac af) λag w ah m a f=> ?_
 have ac:=rd2 ah ac
 have h1:=rd2 ah h1
 refine l_o f (Bn (f.e Z)) λa f=>Ab f Z λa f=> ?_
 refine Bo 3 (λa w=>∃ai,GLe ag ai∧Mem W ai w (ib ad 29 [aa]::H)∧Fr a 86 [(0,(.agg #[aa])),(1,v1),(2,(pb ad)),(5,(iv (x1.length:Int))),(13,(.agg #[aa])),(14,(.bool ae)),(15,(.bool (!ae))),(16,(.bool (!ae))),(19,(.bool ((!ae)||(decide ((x1.length:Int)<2)))))]) ?_ ?_
 ·rcases Bool.eq_false_or_eq_true (!ae) with aj|aj
  ·refine As f aj λa f=> ?_
   refine As f aj λa f=>l_o f (AT (f.e Z) aj (f.e Z)) λa f=> ?_
   exact⟨_,gr,m,f.weak ⟨Z,Z,Z,Z,Z,Z,Z,Z,by rw[aj];rfl,trivial⟩⟩
  ·refine Ar f aj ?_
   refine Ab f Z λa f=>Ar f aj ?_
   refine Ai f Z Z AP λa f=>l_o f (AS (f.e Z) aj (f.e Z)) λa f=> ?_
   exact⟨_,gr,m,f.weak ⟨Z,Z,Z,Z,Z,Z,Z,Z,by rw[aj];rfl,trivial⟩⟩
 ·rintro a w ⟨ai,ak,m,f⟩
  have ac:=rd2 ak ac
  have h1:=rd2 ak h1
  refine Ab f Z λa f=> ?_
  refine Bo 3 (λa w=>∃al,GLe ai al∧Mem W al w (ib ad 29 [aa]::H)∧Fr a 86 [(0,(.agg #[aa])),(1,v1),(2,(pb ad)),(5,(iv (x1.length:Int))),(13,(.agg #[aa])),(14,(.bool ae)),(15,(.bool (!ae))),(16,(.bool (!ae))),(19,(.bool ((!ae)||(decide ((x1.length:Int)<2))))),(20,(.bool ((!ae)||(decide ((x1.length:Int)<2))))),(23,(.bool (((!ae)||(decide ((x1.length:Int)<2)))||(decide ((240:Int)<(x1.length:Int))))))]) ?_ ?_
  ·rcases Bool.eq_false_or_eq_true ((!ae)||(decide ((x1.length:Int)<2))) with am|am
   ·refine As f am λa f=> ?_
    refine As f am λa f=>l_o f (AT (f.e Z) am (f.e Z)) λa f=> ?_
    exact⟨_,gr,m,f.weak ⟨Z,Z,Z,Z,Z,Z,Z,Z,Z,Z,by rw[am];rfl,trivial⟩⟩
   ·refine Ar f am ?_
    refine Ab f Z λa f=>Ar f am ?_
    refine Ai f Z Z Cx λa f=>l_o f (AS (f.e Z) am (f.e Z)) λa f=> ?_
    exact⟨_,gr,m,f.weak ⟨Z,Z,Z,Z,Z,Z,Z,Z,Z,Z,by rw[am];rfl,trivial⟩⟩
  ·rintro a w ⟨al,an,m,f⟩
   have ac:=rd2 an ac
   have h1:=rd2 an h1
   refine Aa ?_
   rcases Ae hd with⟨ao,hd⟩|⟨ao,hd⟩
   ·refine Al f Z ao ?_
    refine Af ?_
    refine Ac f Z λa f=>Aa ?_
    refine Ax ?_
    have m:Mem W al w H:=Mem.drop (H':=[ib ad 29 [aa]]) m
    obtain rfl:=sj hd
    exact⟨[(.bool false)],f.g Z,f.d,_,[],(gt ah (gt ak an)),m,Z,Z⟩
   ·refine Aj f Z ao ?_
    refine Am ?_
    refine Af ?_
    refine AW 0 0 (ds:=[aa]) m Bv f Z Z Z Z Z λa f=> ?_
    have⟨ap,aq,hd⟩:=bind_some hd
    refine A5 f Z call51 (Wk.j m ac aq) λar au av w aw m ax a f=> ?_
    obtain⟨ay,az,rfl,rfl,aA⟩:=ax
    have ac:=rd2 aw ac
    have h1:=rd2 aw h1
    refine l_slitR0 (E:=P2) m AR f Z λaB aC w a m aD f=>Ac f Z λa f=>Ac f Z λa f=>Aa (Ag (Af ?_))
    refine Ab f Z λa f=>A6 underlying27 f Z Z h1 λa f=>Ab f Z λa f=>Aa ?_
    have⟨aE,aF,hd⟩:=bind_some hd
    refine AN (λa w=>∃q_177':(List (Int×Int)),aE= .inl q_177'∧∃aG:List (Int×Int),aG=q_177'∧∃(aH:GH) (aI:Value) (aJ:Itm),GLe au aH∧Fr a 86 [(5,(iv (x1.length:Int))),(6,ay),(7,aI)]∧Mem W aH w (az::aJ::H)∧OwR P2 99 aH aJ aI aG) ?_ ?_
    ·refine Ak ?_
     have m:=m.fr 1
     have m:=m.fr 2
     refine AI (λaK a w=>∃aL:List (Int×Int),∃aM:Int,(aL,aM)=aK∧∃(aN:GH) (aO:Value) (aP:Itm),GLe au aN∧Fr a 86 [(2,(pb ad)),(5,(iv (x1.length:Int))),(6,ay),(7,aO),(27,v1),(28,(iv (x1.length:Int))),(29,(iv aM))]∧Mem W aN w (ib ad 29 [aa]::az::aP::H)∧OwR P2 99 aN aP aO aL) aF ⟨_,_,Z,_,aC,aB,gr,f.k Z,m,aD⟩ ?_
     clear aF f m
     rintro aK aQ aR aS a w ⟨aL,aM,rfl,aN,aO,aP,aT,f,m,aU⟩
     have h1:=rd2 aT h1
     have ac:=rd2 aT ac
     refine Af ?_
     refine Ai f Z Z AP λa f=>Aa (Ag ?_)
     rcases Ae aR with⟨aV,aR⟩|⟨aV,aR⟩
     ·refine Al f Z aV ?_
      refine Am ?_
      refine Ag (Ak (Af ?_))
      have⟨aW,aX,aR⟩:=bind_some aR
      refine Bi T27 f Z Z Z h1 aX λaY aZ a a2 a3 f=>AH m Bj f Z Z a2 λa f=>Ac f Z λa f=>Aa (Ag (Ag ?_))
      refine A9 14 AJ (by kernel_rfl) m ?_
      refine Ah 0 14 Z f Z λa f=>q_len (i:=1) 14 underlying31 a3 Z (by kernel_rfl) Z f Z Z Z λa f=>q_p 2 14 Z f (λ_=>AL (f.e Z) (f.e Z) Cy) λa f=>Ah 3 14 Z f Z λa f=> ?_
      have⟨a4,a5,aR⟩:=bind_some aR
      refine Cf (fuel':=0) (listed':= #[true,true,true,true,true,true,true,true,true,true,true,true,true,true]) (λa=>Fr a 86 [(2,(pb ad)),(5,(iv (x1.length:Int))),(6,ay),(7,aO),(9,aZ),(27,v1),(28,(iv (x1.length:Int))),(29,(iv aM)),(33,aZ),(34,(iv (aW.length:Int))),(35,(.bool ((aW.length:Int) !=2))),(36,(.bool ((aW.length:Int) !=2))),(46,(.bool a4))]) ?_ ?_
      ·intro a f
       refine AZ λa6 w a7 m=> ?_
       have a3:=rd1 a7 a3
       have aU:=OwR.mono trivial a7 aU
       refine Aa ?_
       rcases Ae aR with⟨a8,aR⟩|⟨a8,aR⟩
       ·refine Al f Z a8 ?_
        refine Af ?_
        refine Ac f Z λa f=>Aa ?_
        refine Ax ?_
        have m:Mem W a6 w H:=Mem.drop (H':=[ib ad 29 [aa],az,aP]) m
        obtain rfl:=sj aR
        obtain rfl:=aS _ rfl
        obtain rfl:=sj hd
        exact⟨[(.bool false)],f.g Z,f.d,_,[],(gt ah (gt ak (gt an (gt aw (gt aT a7))))),m,Z,Z⟩
       ·refine Aj f Z a8 ?_
        refine Am ?_
        refine BS AJ m ?_
        refine p_p 0 Z f (λ_=>Bh (f.e Z)) λa f=>BU 1007 6 (by kernel_rfl) Z ?_
        refine Ah 1 1007 Z f Z λa f=> ?_
        have⟨a9,ba,aR⟩:=bind_some aR
        refine Bl 2 1007 T31 a3 ba Z f Z Z λbb bc a bd be f=> ?_
        subst be
        refine Bm 3 1007 Pl2 bd Z f Z λa f=>Ah 4 1007 Z f Z λa f=> ?_
        have⟨bf,bg,aR⟩:=bind_some aR
        refine Bl 5 1007 T31 a3 bg Z f Z Z λbh bi a bj bk f=> ?_
        subst bk
        refine Bm 6 1007 Pl2 bj Z f Z λa f=>AZ λbl w bm m=> ?_
        have aU:=OwR.mono trivial bm aU
        have bn:∀w,(Instr.build 99 #[(0,(iv a9)),(1,(iv bf))]).run prog w= .ok (.agg #[(iv a9),(iv bf)]) w:=by intro w;simp[Instr.build,Instr.fill,Ca,B3,BJ,BQ,BE,B9]
        refine CC f Z Z bn λa f=>Dr (E:=P2) (y:=(a9,bf)) (cs:=[(iv a9),(iv bf)]) m AR f Z Z Z (lb Z) λbo bp w a m bq f=> ?_
        have⟨br,bs,aR⟩:=bind_some aR
        refine D3 (E:=P2) (z:= .agg #[(iv 0),(iv 0)]) 3 0 m aU Z bq Z (by simp) AR Z (by decide) f Z Z Z bs λbt bu w a m bv f=>Ac f Z λa f=>Aa (Ap ?_)
        refine Ai f Z Z Az λa f=>Ab f Z λa f=>Aa ?_
        have m:=m.fr 3
        have m:=m.fr 3
        have m:Mem W bl w (ib ad 29 [aa]::az::bt::bo::H):=m.fr 3
        have m:=m.eraseAt 3
        obtain rfl:=sj aR
        exact⟨_,Z,_,_,Z,_,bu,bt,(gt aT (gt a7 bm)),f.k Z,m,bv⟩
      ·intro bw
       rcases Ae a5 with⟨bx,a5⟩|⟨bx,a5⟩
       ·refine Aq 4 14 Z f bx λa f=> ?_
        refine Aq 5 14 Z f bx λa f=>Aq 6 14 Z f bx λa f=>Aq 7 14 Z f bx λa f=>Aq 8 14 Z f bx λa f=>Aq 9 14 Z f bx λa f=>Aq 10 14 Z f bx λa f=>Aq 11 14 Z f bx λa f=>Aq 12 14 Z f bx λa f=>q_p 13 14 Z f (λ_=>AT (f.e Z) bx (f.e Z)) λa f=> ?_
        obtain rfl:=sj a5
        exact bw _ (f.k Z)
       ·refine Cd (i:=4) (ds:=[aa]) 14 0 Bv Z Z Z Z (by kernel_rfl) Z f (Ay f Z Z Z bx) Z Z λa f=> ?_
        refine Ah (hw:=wo f bx) 5 14 Z f Z λa f=> ?_
        have⟨bz,bA,a5⟩:=bind_some a5
        refine Bl (hw:=wo f bx) 6 14 T31 a3 bA Z f Z Z λbB bC a bD bE f=> ?_
        subst bE
        refine Bm (hw:=wo f bx) 7 14 Pl2 bD Z f Z λa f=>Ah (hw:=wo f bx) 8 14 Z f Z λa f=> ?_
        have⟨bF,bG,a5⟩:=bind_some a5
        refine Bl (hw:=wo f bx) 9 14 T31 a3 bG Z f Z Z λbH bI a bJ bK f=> ?_
        subst bK
        refine Bm (hw:=wo f bx) 10 14 Pl2 bJ Z f Z λa f=> ?_
        have⟨bL,bM,a5⟩:=bind_some a5
        refine B8 (i:=11) 14 Z (by kernel_rfl) Z f (Ay f Z Z Z bx) Z Z call108 (λ_ _ w bN m=>Wk.y0 m (rd2 bN ac) bM) λa f=>q_p (hw:=wo f bx) 12 14 Z f (λ_=>Bn (f.e Z)) λa f=>q_p 13 14 Z f (λ_=>AS (f.e Z) bx (f.e Z)) λa f=> ?_
        obtain rfl:=sj a5
        exact bw _ (f.k Z)
     ·refine Aj f Z aV ?_
      refine AE Z ?_
      have m:=m.fr 2
      have m:=m.fr 2
      have m:=m.eraseAt 2
      obtain rfl:=sj aR
      obtain rfl:=aS _ rfl
      exact⟨_,Z,_,Z,_,aO,aP,aT,f.k Z,m,aU⟩
    ·rintro a w ⟨_,rfl,aG,rfl,aH,aI,aJ,bO,f,m,bP⟩
     have aA:=od1 bO aA
     refine Ag (Af ?_)
     refine Ac f Z λa f=>Aa ?_
     have m:=m.fr 1
     obtain⟨bQ,bR,m,bS⟩:=OwR.stamp trivial bP m
     have aA:=od1 bR aA
     have⟨bT,bU,hd⟩:=bind_some hd
     refine AN (λa w=>∃q_430':(List (Int×Int)),bT= .inl q_430'∧∃bV:List (Int×Int),bV=q_430'∧∃(bW:GH) (bX:Value),GLe bQ bW∧Fr a 86 [(5,(iv (x1.length:Int))),(7,bX)]∧Mem W bW w (H)∧RSr P2 bW bX bV) ?_ ?_
     ·refine Ak ?_
      refine AI (λbY a w=>∃bZ:List (Int×Int),∃b0:Int,(bZ,b0)=bY∧∃(b1:GH) (b2:Value),GLe bQ b1∧Fr a 86 [(5,(iv (x1.length:Int))),(6,ay),(7,b2),(10,(iv b0))]∧Mem W b1 w (az::H)∧RSr P2 b1 b2 bZ) bU ⟨_,_,Z,_,aI,gr,f.k Z,m,bS⟩ ?_
      clear bU f m
      rintro bY b3 b4 b5 a w ⟨bZ,b0,rfl,b1,b2,b6,f,m,b7⟩
      have aA:=od1 b6 aA
      refine Ag (Af ?_)
      refine Ab f Z λa f=>Ab f Z λa f=>Ai f Z Z AP λa f=>Aa ?_
      rcases Ae b4 with⟨b8,b4⟩|⟨b8,b4⟩
      ·refine Al f Z b8 ?_
       refine Am ?_
       refine Ag (Ak (Ag ?_))
       refine A9 13 AJ (by kernel_rfl) m ?_
       refine Ah 0 13 Z f Z λa f=>Ah 1 13 Z f Z λa f=>Ah 2 13 Z f Z λa f=>q_p 3 13 Z f (λ_=>AL (f.e Z) (f.e Z) A3) λa f=> ?_
       have⟨b9,ca,b4⟩:=bind_some b4
       refine q_atR (i:=4) (listed':= #[true,true,true,true,true,false,false,false,false,false,false,false,false]) (C:=P2) 13 AR b7 ca Z (by kernel_rfl) Z f Z Z Z Z λcb a cc f=>Ek (i:=5) (listed':= #[true,true,true,true,true,true,false,false,false,false,false,false,false]) (C:=P2) [(iv b9.1),(iv b9.2)] 13 Bb cc Z Z (by kernel_rfl) Z f Z Z Z λa f=>Ah 7 13 Z f Z λa f=>Ah 8 13 Z f Z λa f=> ?_
       have⟨cd,ce,b4⟩:=bind_some b4
       refine q_atR (i:=9) (listed':= #[true,true,true,true,true,true,false,true,true,true,false,false,false]) (C:=P2) 13 AR b7 ce Z (by kernel_rfl) Z f Z Z Z Z λcf a cg f=>Ek (i:=10) (listed':= #[true,true,true,true,true,true,false,true,true,true,true,false,false]) (C:=P2) [(iv cd.1),(iv cd.2)] 13 Bb cg Z Z (by kernel_rfl) Z f Z Z Z λa f=>Di 6 Z λch w ci m cj cj=> ?_
       have b7:=RSr.mono trivial _ _ _ _ ci b7
       have aA:=od1 ci aA
       have⟨ck,cl,b4⟩:=bind_some b4
       refine A5 f Z call110 (Ow.lendCall (RI.mono _) 0 aA m Z (λcm cn m co=>Wk.k hW m co cl) (λ_ G' _ _ ⟨a0,a1,e1,e2,o0⟩=>⟨a0,a1,e1,e2,OwR.free trivial G' o0⟩)) λcp cq cr w ct m cu a f=> ?_
       obtain⟨cv,cw,rfl,rfl,cx⟩:=cu
       have b7:=RSr.mono trivial _ _ _ _ ct b7
       refine Aa ?_
       refine cj cq [cw] _ _ ct m ?_
       refine Di 11 Z λcy w cz m cA cA=> ?_
       have b7:=RSr.mono trivial _ _ _ _ cz b7
       have cx:=OwR.mono trivial cz cx
       have⟨cB,cC,b4⟩:=bind_some b4
       refine A5 f Z call109 (OwR.lendCall trivial 0 cx m Z (λcD cE m cF=>Wk.v0 m cF cC) (λ_ _ _ _ h=>h)) λcG cH cI w cJ m cK a f=> ?_
       obtain⟨rfl,rfl⟩:=cK
       have b7:=RSr.mono trivial _ _ _ _ cJ b7
       refine Aa ?_
       refine cA cH [cw] _ _ cJ m ?_
       refine q_p 12 13 Z f (λ_=>Bn (f.e Z)) λa f=>AZ λcL w cM m=> ?_
       have b7:=RSr.mono trivial _ _ _ _ cM b7
       refine Aa ?_
       rcases Ae b4 with⟨cN,b4⟩|⟨cN,b4⟩
       ·refine Al f Z cN ?_
        refine Af ?_
        refine Ac f Z λa f=>Aa ?_
        refine Ax ?_
        have m:Mem W cL w H:=Mem.drop (H':=[cw,az]) m
        obtain rfl:=sj b4
        obtain rfl:=b5 _ rfl
        obtain rfl:=sj hd
        exact⟨[(.bool false)],f.g Z,f.d,_,[],(gt ah (gt ak (gt an (gt aw (gt bO (gt bR (gt b6 (gt ci (gt ct (gt cz (gt cJ cM))))))))))),m,Z,Z⟩
       ·refine Aj f Z cN ?_
        refine Am ?_
        refine Ap ?_
        refine Ab f Z λa f=>Ai f Z Z Az λa f=>Ac f Z λa f=>Aa ?_
        have m:=m.fr 1
        have m:=m.eraseAt 1
        obtain rfl:=sj b4
        exact⟨_,Z,_,_,Z,_,b2,(gt b6 (gt ci (gt ct (gt cz (gt cJ cM))))),f.k Z,m,b7⟩
      ·refine Aj f Z b8 ?_
       refine AE Z ?_
       have m:Mem W b1 w H:=Mem.drop (H':=[az]) m
       obtain rfl:=sj b4
       obtain rfl:=b5 _ rfl
       exact⟨_,Z,_,Z,_,b2,b6,f.k Z,m,b7⟩
     ·rintro a w ⟨_,rfl,bV,rfl,bW,bX,cO,f,m,cP⟩
      refine Ag ?_
      refine A9 11 AJ (by kernel_rfl) m ?_
      refine Ah 0 11 Z f Z λa f=>Ah 1 11 Z f Z λa f=>q_p 2 11 Z f (λ_=>AL (f.e Z) (f.e Z) A3) λa f=> ?_
      have⟨cQ,cR,hd⟩:=bind_some hd
      refine q_atR (i:=3) (listed':= #[true,true,true,true,false,false,false,false,false,false,false]) (C:=P2) 11 AR cP cR Z (by kernel_rfl) Z f Z Z Z Z λcS a cT f=>Ek (i:=4) (listed':= #[true,true,true,true,true,false,false,false,false,false,false]) (C:=P2) [(iv cQ.1),(iv cQ.2)] 11 Bb cT Z Z (by kernel_rfl) Z f Z Z Z λa f=>Ah 5 11 Z f Z λa f=> ?_
      have⟨cU,cV,hd⟩:=bind_some hd
      refine q_atR (i:=6) (listed':= #[true,true,true,true,true,true,true,false,false,false,false]) (C:=P2) 11 AR cP cV Z (by kernel_rfl) Z f Z Z Z Z λcW a cX f=>Ek (i:=7) (listed':= #[true,true,true,true,true,true,true,true,false,false,false]) (C:=P2) [(iv cU.1),(iv cU.2)] 11 Bb cX Z Z (by kernel_rfl) Z f Z Z Z λa f=>Di 8 Z λcY w cZ m c0 c0=> ?_
      have⟨c1,c2,hd⟩:=bind_some hd
      refine Bk f Z call111 (Wk.R m c2) λc3 w c4 m a f=>Aa ?_
      refine c0 c3 [] _ _ c4 m ?_
      refine q_p 9 11 Z f (λ_=>r_eqlP Eq99 (a:=(cQ.1,cQ.2)) (b:=(c1.1,c1.2)) (f.e Z) (f.e Z)) λa f=>q_p 10 11 Z f (λ_=>Cc (f.e Z)) λa f=>AZ λc5 w c6 m=>Aa ?_
      refine Ax ?_
      obtain rfl:=sj hd
      exact⟨[(.bool (((cQ.1,cQ.2):Int×Int)==(c1.1,c1.2)))],f.g Z,f.d,_,[],(gt ah (gt ak (gt an (gt aw (gt bO (gt bR (gt cO (gt cZ (gt c4 c6))))))))),m,Z,Z⟩
set_option maxHeartbeats 1000000 in
theorem Wk.Q0 {v0:Value}{x0:LI}(hW:Cs W)(m:Mem W G w (H))(h0:RSl (RI .u8) G v0 x0){y:Bool}(hd:D.Q0 x0=some y):
  Calls prog 6 #[v0] w (Res W G H (λ_ Ho v=>Ho=[]∧v=(.bool y))):=by
 refine AB (args:=[v0]) (N:=76) [.tmp 2] func6 Z Z (lb Z) Z λa f=> ?_
 unfold D.Q0 at hd
 refine Af ?_
 refine Ac f Z λa f=>Aa (Ag (Af ?_))
 refine Ab f Z λa f=> ?_
 have⟨aa,ab,hd⟩:=bind_some hd
 refine Bk f Z call7 (Wk.L0 m h0 ab) λac w ad m a f=> ?_
 have h0:=rd1 ad h0
 refine Aa ?_
 rcases Ae hd with⟨ae,hd⟩|⟨ae,hd⟩
 ·refine Al f Z ae ?_
  refine Af ?_
  refine Ac f Z λa f=>Aa ?_
  refine Ax ?_
  obtain rfl:=sj hd
  exact⟨[(.bool true)],f.g Z,f.d,_,[],ad,m,Z,Z⟩
 ·refine Aj f Z ae ?_
  refine Am ?_
  refine Af ?_
  refine Ab f Z λa f=> ?_
  have⟨af,ag,hd⟩:=bind_some hd
  refine A5 f Z call8 (Wk.p0 m h0 ag) λah ai aj w ak m al a f=> ?_
  obtain⟨am,an,rfl,rfl,ao⟩:=al
  refine Ac f Z λa f=>AG ?_
  refine Ab f Z λa f=> ?_
  have⟨ap,aq,hd⟩:=bind_some hd
  refine A5 f Z call9 (Wk.u0 m ao aq) λar au av w aw m ax a f=> ?_
  obtain⟨ay,az,aA,rfl,rfl,aB,aC⟩:=ax
  refine BP (cs:=[sn]) zeroValue29 m f Z Z λaD w a m f=>A7 0 0 (ds:=[ay]) m sizeOf29 f Z Z Z (Ao (Ow.one1 1 m aB Z) AF) Z (lb Z) Z λw m=>AG ?_
  refine AW 0 0 (ds:=[ay]) m Bv f Z Z Z Z Z λa f=> ?_
  have⟨aE,aF,hd⟩:=bind_some hd
  refine A5 f Z call32 (Ow.lendCall (RSl.mono (RI.mono _)) 1 aB m Z (λaG aH m aI=>Wk.k0 hW m aI aF) (λ_ G' _ _ ⟨a0,a1,e1,e2,o0⟩=>⟨a0,a1,e1,e2,Ow2.free (RI.free _) G' o0⟩)) λaJ aK aL w aM m aN a f=> ?_
  obtain⟨aO,aP,rfl,rfl,aQ⟩:=aN
  have aB:=Ow.mono (RSl.mono (RI.mono _)) aM aB
  refine Ab f Z λa f=>l_o f (A4 (f.e Z) Z) λa f=>l_o f (A4 (f.e Z) Z) λa f=>Ac f Z λa f=>Ac f Z λa f=>AG ?_
  refine AW 1 0 (ds:=[ay]) m Bv f Z Z Z Z Z λa f=> ?_
  have⟨aR,aS,hd⟩:=bind_some hd
  refine A5 f Z call38 (Ow.lendCall (RSl.mono (RI.mono _)) 2 aB m Z (λaT aU m aV=>Wk.e hW m aV aS) (λ_ G' _ _ ⟨a0,a1,e1,e2,o0⟩=>⟨a0,a1,e1,e2,Ow2.free (RI.free _) G' o0⟩)) λaW aX aY w aZ m a2 a f=> ?_
  obtain⟨a3,a4,rfl,rfl,a5⟩:=a2
  have aQ:=od2 aZ aQ
  have aB:=Ow.mono (RSl.mono (RI.mono _)) aZ aB
  refine Ab f Z λa f=>l_o f (A4 (f.e Z) Z) λa f=>l_o f (A4 (f.e Z) Z) λa f=>Ac f Z λa f=>Ac f Z λa f=>Aa (Ag (Af ?_))
  refine Ab f Z λa f=>Ab f Z λa f=>l_o f (r_bool_eql (f.e Z) (f.e Z) underlying4) λa f=>Ab f Z λa f=> ?_
  have⟨a6,a7,hd⟩:=bind_some hd
  refine Bo 5 (λa w=>∃a8,GLe aX a8∧Mem W a8 w (a4::aP::ib aD 29 [ay]::az::ib an 55 [aA,(iv ap.2.2.1),(.int .u64 ap.2.2.2)]::H)∧Fr a 76 [(0,v0),(3,(pb an)),(4,(pb aD)),(5,aO),(6,(.bool aE.2)),(7,a3),(8,(.bool aR.2)),(25,(.bool aE.2)),(26,(.bool aR.2)),(27,(.bool (aE.2==aR.2))),(28,(.bool (aE.2==aR.2))),(33,(.bool a6))]) ?_ ?_
  ·rcases Ae a7 with⟨a9,a7⟩|⟨a9,a7⟩
   ·refine As f a9 λa f=> ?_
    refine As f a9 λa f=>As f a9 λa f=>As f a9 λa f=>l_o f (AT (f.e Z) a9 (f.e Z)) λa f=> ?_
    obtain rfl:=sj a7
    exact⟨_,gr,m,f.k Z⟩
   ·refine Ar f a9 ?_
    refine Ab f Z λa f=>Ar f a9 ?_
    refine AW 2 0 (ds:=[ay]) m Bv f Z Z Z Z Z λa f=>Ar f a9 ?_
    have⟨ba,bb,a7⟩:=bind_some a7
    refine A5 f Z call39 (Ow.lendCall (RSl.mono (RI.mono _)) 3 aB m Z (λbc bd m be=>Wk.x0 hW m be bb) (λ_ _ _ _ h=>h)) λbf bg bh w bi m bj a f=> ?_
    obtain⟨rfl,rfl⟩:=bj
    refine Ar f a9 ?_
    refine l_o f (r_bool_neq (f.e Z) (f.e Z) underlying4) λa f=>l_o f (AS (f.e Z) a9 (f.e Z)) λa f=> ?_
    obtain rfl:=sj a7
    exact⟨_,bi,m,f.k Z⟩
  ·rintro a w ⟨a8,bk,m,f⟩
   have a5:=od2 bk a5
   have aQ:=od2 bk aQ
   have aB:=Ow.mono (RSl.mono (RI.mono _)) bk aB
   refine Aa ?_
   rcases Ae hd with⟨bl,hd⟩|⟨bl,hd⟩
   ·refine Al f Z bl ?_
    refine Af ?_
    refine Ac f Z λa f=>Aa ?_
    refine Ax ?_
    have m:Mem W a8 w H:=Mem.drop (H':=[a4,aP,ib aD 29 [ay],az,ib an 55 [aA,(iv ap.2.2.1),(.int .u64 ap.2.2.2)]]) m
    obtain rfl:=sj hd
    exact⟨[(.bool false)],f.g Z,f.d,_,[],(gt ad (gt ak (gt aw (gt aM (gt aZ bk))))),m,Z,Z⟩
   ·refine Aj f Z bl ?_
    refine Am ?_
    refine Ag (Af ?_)
    refine Ab f Z λa f=>Aa ?_
    rcases Ae hd with⟨bm,hd⟩|⟨bm,hd⟩
    ·refine Al f Z bm ?_
     refine Af ?_
     refine AW 2 0 (ds:=[ay]) m Bv f Z Z Z Z Z λa f=>Ab f Z λa f=> ?_
     have⟨bn,bo,hd⟩:=bind_some hd
     refine A5 f Z call40 (Ow.lendCall (RSl.mono (RI.mono _)) 3 aB m Z (λbp bq m br=>(Ow2.lendCall (RI.mono _) 1 (od2 bq aQ) m Z (λbs bt m bu=>Wk.t0 m (rd2 bt br) bu bo) (λ_ _ _ _ h=>h))) (λ_ _ _ _ h=>h)) λbv bw bx w bz m bA a f=> ?_
     obtain⟨rfl,rfl⟩:=bA
     have a5:=od2 bz a5
     have aQ:=od2 bz aQ
     have aB:=Ow.mono (RSl.mono (RI.mono _)) bz aB
     refine Ab f Z λa f=> ?_
     have⟨bB,bC,hd⟩:=bind_some hd
     refine Bo 4 (λa w=>∃bD,GLe bw bD∧Mem W bD w (a4::aP::ib aD 29 [ay]::az::ib an 55 [aA,(iv ap.2.2.1),(.int .u64 ap.2.2.2)]::H)∧Fr a 76 [(0,v0),(3,(pb an)),(4,(pb aD)),(5,aO),(6,(.bool aE.2)),(7,a3),(8,(.bool aR.2)),(34,(.bool aE.2)),(35,(.agg #[ay])),(36,aO),(37,(.bool bn)),(38,(.bool bn)),(42,(.bool bB))]) ?_ ?_
     ·rcases Ae bC with⟨bE,bC⟩|⟨bE,bC⟩
      ·refine Ar f bE ?_
       refine AW 2 0 (ds:=[ay]) m Bv f Z Z Z Z Z λa f=>Ar f bE ?_
       refine Ab f Z λa f=>Ar f bE ?_
       have⟨bF,bG,bC⟩:=bind_some bC
       refine A5 f Z call41 (Ow.lendCall (RSl.mono (RI.mono _)) 3 aB m Z (λbH bI m bJ=>(Ow2.lendCall (RI.mono _) 1 (od2 bI aQ) m Z (λbK bL m bM=>Wk.e0 hW m (rd2 bL bJ) bM bG) (λ_ _ _ _ h=>h))) (λ_ _ _ _ h=>h)) λbN bO bP w bQ m bR a f=> ?_
       obtain⟨rfl,rfl⟩:=bR
       refine l_o f (AT (f.e Z) bE (f.e Z)) λa f=> ?_
       obtain rfl:=sj bC
       exact⟨_,bQ,m,f.k Z⟩
      ·refine As f bE λa f=> ?_
       refine As f bE λa f=>As f bE λa f=>l_o f (AS (f.e Z) bE (f.e Z)) λa f=> ?_
       obtain rfl:=sj bC
       exact⟨_,gr,m,f.k Z⟩
     ·rintro a w ⟨bD,bS,m,f⟩
      have a5:=od2 bS a5
      have aQ:=od2 bS aQ
      have aB:=Ow.mono (RSl.mono (RI.mono _)) bS aB
      refine Ab f Z λa f=> ?_
      have⟨bT,bU,hd⟩:=bind_some hd
      refine Bo 4 (λa w=>∃bV,GLe bD bV∧Mem W bV w (a4::aP::ib aD 29 [ay]::az::ib an 55 [aA,(iv ap.2.2.1),(.int .u64 ap.2.2.2)]::H)∧Fr a 76 [(0,v0),(3,(pb an)),(4,(pb aD)),(5,aO),(6,(.bool aE.2)),(7,a3),(8,(.bool aR.2)),(34,(.bool aE.2)),(35,(.agg #[ay])),(36,aO),(37,(.bool bn)),(38,(.bool bn)),(42,(.bool bB)),(43,(.bool bB)),(47,(.bool bT))]) ?_ ?_
      ·rcases Ae bU with⟨bW,bU⟩|⟨bW,bU⟩
       ·refine Ar f bW ?_
        refine AW 2 0 (ds:=[ay]) m Bv f Z Z Z Z Z λa f=>Ar f bW ?_
        refine Ab f Z λa f=>Ar f bW ?_
        have⟨bX,bY,bU⟩:=bind_some bU
        refine A5 f Z call42 (Ow.lendCall (RSl.mono (RI.mono _)) 3 aB m Z (λbZ b0 m b1=>(Ow2.lendCall (RI.mono _) 1 (od2 b0 aQ) m Z (λb2 b3 m b4=>Wk.I hW m (rd2 b3 b1) b4 bY) (λ_ _ _ _ h=>h))) (λ_ _ _ _ h=>h)) λb5 b6 b7 w b8 m b9 a f=> ?_
        obtain⟨rfl,rfl⟩:=b9
        refine l_o f (AT (f.e Z) bW (f.e Z)) λa f=> ?_
        obtain rfl:=sj bU
        exact⟨_,b8,m,f.k Z⟩
       ·refine As f bW λa f=> ?_
        refine As f bW λa f=>As f bW λa f=>l_o f (AS (f.e Z) bW (f.e Z)) λa f=> ?_
        obtain rfl:=sj bU
        exact⟨_,gr,m,f.k Z⟩
      ·rintro a w ⟨bV,ca,m,f⟩
       have a5:=od2 ca a5
       refine Ab f Z λa f=> ?_
       refine Bo 4 (λa w=>∃cb,GLe bV cb∧Mem W cb w (a4::aP::ib aD 29 [ay]::az::ib an 55 [aA,(iv ap.2.2.1),(.int .u64 ap.2.2.2)]::H)∧Fr a 76 [(0,v0),(3,(pb an)),(4,(pb aD)),(5,aO),(6,(.bool aE.2)),(7,a3),(8,(.bool aR.2)),(34,(.bool aE.2)),(35,(.agg #[ay])),(36,aO),(37,(.bool bn)),(38,(.bool bn)),(42,(.bool bB)),(43,(.bool bB)),(47,(.bool bT)),(48,(.bool bT)),(52,(.bool (bT&&((aR.1.length:Int)==0))))]) ?_ ?_
       ·rcases Bool.eq_false_or_eq_true bT with cc|cc
        ·refine Ar f cc ?_
         refine Ab f Z λa f=>Ar f cc ?_
         refine l_own2_len 0 m a5 Z underlying27 f Z Z λa f=>Ar f cc ?_
         refine Ai f Z Z BZ λa f=>l_o f (AT (f.e Z) cc (f.e Z)) λa f=> ?_
         exact⟨_,gr,m,f.weak ⟨Z,Z,Z,Z,Z,Z,Z,Z,Z,Z,Z,Z,Z,Z,Z,Z,by rw[cc];rfl,trivial⟩⟩
        ·refine As f cc λa f=> ?_
         refine As f cc λa f=>As f cc λa f=>l_o f (AS (f.e Z) cc (f.e Z)) λa f=> ?_
         exact⟨_,gr,m,f.weak ⟨Z,Z,Z,Z,Z,Z,Z,Z,Z,Z,Z,Z,Z,Z,Z,Z,by rw[cc];rfl,trivial⟩⟩
       ·rintro a w ⟨cb,cd,m,f⟩
        refine Ac f Z λa f=>Aa ?_
        refine Ax ?_
        have m:Mem W cb w H:=Mem.drop (H':=[a4,aP,ib aD 29 [ay],az,ib an 55 [aA,(iv ap.2.2.1),(.int .u64 ap.2.2.2)]]) m
        obtain rfl:=sj hd
        exact⟨[(.bool (bT&&((aR.1.length:Int)==0)))],f.g Z,f.d,_,[],(gt ad (gt ak (gt aw (gt aM (gt aZ (gt bk (gt bz (gt bS (gt ca cd))))))))),m,Z,Z⟩
    ·refine Aj f Z bm ?_
     refine Am ?_
     refine Ag ?_
     obtain⟨ce,cf,m,cg⟩:=Ow2.stamp (RI.mono _) a5 m
     have aQ:=od2 cf aQ
     have aB:=Ow.mono (RSl.mono (RI.mono _)) cf aB
     refine A9 24 AJ (by kernel_rfl) m ?_
     refine Cd (i:=0) (ds:=[ay]) 24 1 Bv Z Z Z Z (by kernel_rfl) Z f Z Z Z λa f=>Ah 1 24 Z f Z λa f=> ?_
     have⟨ch,ci,hd⟩:=bind_some hd
     refine B8 (i:=2) 24 Z (by kernel_rfl) Z f Z Z Z call43 (λ_ _ w cj m=>(Ow.lendCallR (RSl.mono (RI.mono _)) 2 (Ow.mono (RSl.mono (RI.mono _)) cj aB) m Z (λck cl m cm=>Wk.V m cm (rd2 cl (rd2 cj cg)) ci) (λ_ _ _ _ h=>h))) λa f=>Ah 3 24 Z f Z λa f=> ?_
     have⟨cn,co,hd⟩:=bind_some hd
     refine Cf (fuel':=16) (listed':= #[true,true,true,true,true,true,true,true,false,false,false,false,false,false,false,false,false,false,false,false,false,false,false,false]) (λa=>Fr a 76 [(0,v0),(3,(pb an)),(4,(pb aD)),(5,aO),(6,(.bool aE.2)),(7,a3),(8,(.bool aR.2)),(34,(.bool aE.2)),(53,(.agg #[ay])),(54,a3),(55,(.bool ch)),(56,(.bool ch)),(60,(.bool cn))]) ?_ ?_
     ·intro a f
      refine Ah 8 24 Z f Z λa f=> ?_
      have⟨cp,cq,hd⟩:=bind_some hd
      refine Cf (fuel':=6) (listed':= #[true,true,true,true,true,true,true,true,true,true,true,true,true,true,true,true,true,true,false,false,false,false,false,false]) (λa=>Fr a 76 [(0,v0),(3,(pb an)),(4,(pb aD)),(5,aO),(6,(.bool aE.2)),(7,a3),(8,(.bool aR.2)),(34,(.bool aE.2)),(53,(.agg #[ay])),(54,a3),(55,(.bool ch)),(56,(.bool ch)),(60,(.bool cn)),(61,(.bool cn)),(70,(.bool cp))]) ?_ ?_
      ·intro a f
       refine Ah 18 24 Z f Z λa f=>Cf (fuel':=1) (listed':= #[true,true,true,true,true,true,true,true,true,true,true,true,true,true,true,true,true,true,true,true,true,true,true,false]) (λa=>Fr a 76 [(0,v0),(3,(pb an)),(4,(pb aD)),(5,aO),(6,(.bool aE.2)),(7,a3),(8,(.bool aR.2)),(34,(.bool aE.2)),(53,(.agg #[ay])),(54,a3),(55,(.bool ch)),(56,(.bool ch)),(60,(.bool cn)),(61,(.bool cn)),(70,(.bool cp)),(71,(.bool cp)),(75,(.bool (cp&&((aE.1.length:Int)==0))))]) ?_ ?_
       ·intro a f
        refine q_p 23 24 Z f (λ_=>Cc (f.e Z)) λa f=>AZ λcr w ct m=>Aa ?_
        refine Ax ?_
        have m:Mem W cr w H:=Mem.drop (H':=[aP,ib aD 29 [ay],az,ib an 55 [aA,(iv ap.2.2.1),(.int .u64 ap.2.2.2)]]) m
        obtain rfl:=sj hd
        exact⟨[(.bool (cp&&((aE.1.length:Int)==0)))],f.g Z,f.d,_,[],(gt ad (gt ak (gt aw (gt aM (gt aZ (gt bk (gt cf ct))))))),m,Z,Z⟩
       ·intro cu
        rcases Bool.eq_false_or_eq_true cp with cv|cv
        ·refine Ah (hw:=wo f cv) 19 24 Z f Z λa f=> ?_
         refine q_own2_len (i:=20) (listed':= #[true,true,true,true,true,true,true,true,true,true,true,true,true,true,true,true,true,true,true,true,true,false,false,false]) 24 0 m aQ Z underlying27 Z (by kernel_rfl) Z f (Ay f Z Z Z cv) Z Z λa f=>q_p (hw:=wo f cv) 21 24 Z f (λ_=>AL (f.e Z) (f.e Z) BZ) λa f=>q_p 22 24 Z f (λ_=>AT (f.e Z) cv (f.e Z)) λa f=> ?_
         exact cu _ (f.weak ⟨Z,Z,Z,Z,Z,Z,Z,Z,Z,Z,Z,Z,Z,Z,Z,Z,by rw[cv];rfl,trivial⟩)
        ·refine Aq 19 24 Z f cv λa f=> ?_
         refine Aq 20 24 Z f cv λa f=>Aq 21 24 Z f cv λa f=>q_p 22 24 Z f (λ_=>AS (f.e Z) cv (f.e Z)) λa f=> ?_
         exact cu _ (f.weak ⟨Z,Z,Z,Z,Z,Z,Z,Z,Z,Z,Z,Z,Z,Z,Z,Z,by rw[cv];rfl,trivial⟩)
      ·intro cw
       rcases Ae cq with⟨cx,cq⟩|⟨cx,cq⟩
       ·refine Cd (i:=9) (ds:=[ay]) 24 1 Bv Z Z Z Z (by kernel_rfl) Z f (Ay f Z Z Z cx) Z Z λa f=> ?_
        refine Ah (hw:=wo f cx) 10 24 Z f Z λa f=>Ah (hw:=wo f cx) 11 24 Z f Z λa f=>q_len (i:=12) 24 underlying27 cg Z (by kernel_rfl) Z f (Ay f Z Z Z cx) Z Z λa f=>q_p (hw:=wo f cx) 13 24 Z f (λ_=>AL (f.e Z) (f.e Z) A3) λa f=> ?_
        have⟨cy,cz,cq⟩:=bind_some cq
        refine q_slice (i:=14) 24 T27 cg cz Z (by kernel_rfl) Z f (Ay f Z Z Z cx) Z Z (.inl ⟨Z,Z⟩) (.inr ⟨_,_,Z,Z⟩) λcA a cB f=> ?_
        have⟨cC,cD,cq⟩:=bind_some cq
        refine B8 (i:=15) 24 Z (by kernel_rfl) Z f (Ay f Z Z Z cx) Z Z call44 (λ_ _ w cE m=>(Ow.lendCallR (RSl.mono (RI.mono _)) 2 (Ow.mono (RSl.mono (RI.mono _)) cE aB) m Z (λcF cG m cH=>Wk.o hW m cH (rd2 cG (rd2 cE cB)) cD) (λ_ _ _ _ h=>h))) λa f=>q_p (hw:=wo f cx) 16 24 Z f (λ_=>Bn (f.e Z)) λa f=>q_p 17 24 Z f (λ_=>AT (f.e Z) cx (f.e Z)) λa f=> ?_
        obtain rfl:=sj cq
        exact cw _ (f.k Z)
       ·refine Aq 9 24 Z f cx λa f=> ?_
        refine Aq 10 24 Z f cx λa f=>Aq 11 24 Z f cx λa f=>Aq 12 24 Z f cx λa f=>Aq 13 24 Z f cx λa f=>Aq 14 24 Z f cx λa f=>Aq 15 24 Z f cx λa f=>Aq 16 24 Z f cx λa f=>q_p 17 24 Z f (λ_=>AS (f.e Z) cx (f.e Z)) λa f=> ?_
        obtain rfl:=sj cq
        exact cw _ (f.k Z)
     ·intro cI
      rcases Ae co with⟨cJ,co⟩|⟨cJ,co⟩
      ·refine Cd (i:=4) (ds:=[ay]) 24 1 Bv Z Z Z Z (by kernel_rfl) Z f (Ay f Z Z Z cJ) Z Z λa f=> ?_
       refine Ah (hw:=wo f cJ) 5 24 Z f Z λa f=> ?_
       have⟨cK,cL,co⟩:=bind_some co
       refine B8 (i:=6) 24 Z (by kernel_rfl) Z f (Ay f Z Z Z cJ) Z Z call44 (λ_ _ w cM m=>(Ow.lendCallR (RSl.mono (RI.mono _)) 2 (Ow.mono (RSl.mono (RI.mono _)) cM aB) m Z (λcN cO m cP=>Wk.o hW m cP (rd2 cO (rd2 cM cg)) cL) (λ_ _ _ _ h=>h))) λa f=>q_p 7 24 Z f (λ_=>AT (f.e Z) cJ (f.e Z)) λa f=> ?_
       obtain rfl:=sj co
       exact cI _ (f.k Z)
      ·refine Aq 4 24 Z f cJ λa f=> ?_
       refine Aq 5 24 Z f cJ λa f=>Aq 6 24 Z f cJ λa f=>q_p 7 24 Z f (λ_=>AS (f.e Z) cJ (f.e Z)) λa f=> ?_
       obtain rfl:=sj co
       exact cI _ (f.k Z)
end Go.Proofs.YtmkcbhidbdggiaaDoor

namespace Go.Sx
def Gm (E:Nat→Nat→Prop)(a b c d:Nat):Prop:=E c d∧((a=c∧¬E b d∧b≠d)∨(b=d∧¬E a c∧a≠c))
def Kl (E:Nat→Nat→Prop)(a b c d:Nat):Prop:=∀T:Nat→Nat→Prop,T a b→(∀p q r s,T p q→Gm E p q r s→T r s)→T c d
section
variable {E : Nat → Nat → Prop} (hs : ∀ a b, E a b → E b a) (hi : ∀ a, ¬ E a a)
theorem Kl.refl {a b:Nat}:Kl E a b a b:=λ_ h _=>h
theorem Kl.step {a b c d p q:Nat}(h:Kl E a b c d)(g:Gm E c d p q):Kl E a b p q:=λT h1 h2=>h2 _ _ _ _ (h T h1 h2) g
theorem Kl.trans {a b c d p q:Nat}(h:Kl E a b c d)(g:Kl E c d p q):Kl E a b p q:=λT h1 h2=>g T (h T h1 h2) h2
theorem Kl.edge {a b c d:Nat}(he:E a b)(h:Kl E a b c d):E c d:=h (λp q=>E p q) he (λ_ _ _ _ _ g=>g.1)
include hs
theorem Gm.sym {a b c d:Nat}(he:E a b)(h:Gm E a b c d):Gm E c d a b:=by
 rcases h with⟨h0,⟨h1,h2,h3⟩|⟨h1,h2,h3⟩⟩
 ·exact⟨he,.inl ⟨h1.symm,λe=>h2 (hs _ _ e),λe=>h3 e.symm⟩⟩
 ·exact⟨he,.inr ⟨h1.symm,λe=>h2 (hs _ _ e),λe=>h3 e.symm⟩⟩
theorem Gm.op {a b c d:Nat}(h:Gm E a b c d):Gm E b a d c:=by
 rcases h with⟨h0,⟨h1,h2,h3⟩|⟨h1,h2,h3⟩⟩
 ·exact⟨hs _ _ h0,.inr ⟨h1,h2,h3⟩⟩
 ·exact⟨hs _ _ h0,.inl ⟨h1,h2,h3⟩⟩
theorem Kl.sym {a b c d:Nat}(he:E a b)(h:Kl E a b c d):Kl E c d a b:=
 (h (λp q=>E p q∧Kl E p q a b) ⟨he,Kl.refl⟩ (λ_ _ _ _ ⟨h1,h2⟩ g=>⟨g.1,(Kl.refl.step (g.sym hs h1)).trans h2⟩)).2
theorem Kl.op {a b c d:Nat}(h:Kl E a b c d):Kl E b a d c:=h (λp q=>Kl E b a q p) Kl.refl (λ_ _ _ _ h1 g=>h1.step (g.op hs))
theorem tri {a b c:Nat}(hab:E a b)(hac:E a c)(hbc:E b c)(n1:¬Kl E b c a c)(n2:¬Kl E b c b a){p q:Nat}(h:Kl E b c p q):Kl E a b a p∧Kl E a c a q:=by
 have key:∀{p q},Kl E b c p q∧Kl E a b a p∧Kl E a c a q→∀r s,Gm E p q r s→Kl E b c r s∧Kl E a b a r∧Kl E a c a s:=by
  rintro p q ⟨h1,h2,h3⟩ r s g
  have h4:=h1.step g
  have eap:=h2.edge hab;have eaq:=h3.edge hac;have epq:=h1.edge hbc
  refine⟨h4,?_⟩
  rcases g with⟨h0,⟨rfl,g2,g3⟩|⟨rfl,g2,g3⟩⟩
  ·refine⟨h2,?_⟩
   have hsa:s≠a:=λe=>by
    subst e
    exact n2 (h4.trans ((h2.op hs).sym hs (hs _ _ hab)))
   have eas:E a s:=by
    apply Classical.byContradiction
    intro hn
    have g':Gm E a p s p:=⟨hs _ _ h0,.inr ⟨rfl,hn,λe=>hsa e.symm⟩⟩
    have:Kl E a b s p:=h2.step g'
    exact n2 (h4.trans ((this.op hs).sym hs (hs _ _ hab)))
   exact h3.step ⟨eas,.inl ⟨rfl,g2,g3⟩⟩
  ·refine⟨?_,h3⟩
   have hra:r≠a:=λe=>by
    subst e
    exact n1 (h4.trans (h3.sym hs hac))
   have ear:E a r:=by
    apply Classical.byContradiction
    intro hn
    have g':Gm E a q r q:=⟨h0,.inr ⟨rfl,hn,λe=>hra e.symm⟩⟩
    exact n1 (h4.trans ((h3.step g').sym hs hac))
   exact h2.step ⟨ear,.inl ⟨rfl,g2,g3⟩⟩
 exact(h (λp q=>Kl E b c p q∧Kl E a b a p∧Kl E a c a q) ⟨Kl.refl,Kl.refl,Kl.refl⟩ (λ_ _ r s h g=>key h r s g)).2
include hi
theorem Eu {x y:Nat}(hxy:E x y)(hno:¬Kl E x y y x){a b c:Nat}(h1:Kl E x y a b)(h2:Kl E x y b c):Kl E x y a c:=by
 have eab:=h1.edge hxy;have ebc:=h2.edge hxy
 have hac:a≠c:=λe=>by
  subst e
  exact hno (h1.trans ((h2.op hs).sym hs (hs _ _ hxy)))
 have eac:E a c:=by
  apply Classical.byContradiction
  intro hn
  have g:Gm E a b c b:=⟨hs _ _ ebc,.inr ⟨rfl,hn,hac⟩⟩
  exact hno ((h1.step g).trans ((h2.op hs).sym hs (hs _ _ hxy)))
 apply Classical.byContradiction
 intro hn
 have hbc2:Kl E b c a b:=(h2.sym hs hxy).trans h1
 have n1:¬Kl E b c a c:=λe=>hn (h2.trans e)
 have n2:¬Kl E b c b a:=λe=>hno (h2.trans (e.trans ((h1.op hs).sym hs (hs _ _ hxy))))
 have:=(tri hs eab eac ebc n1 n2 hbc2).1
 exact hi a (this.edge eab)
end
def Lf (E:Nat→Nat→Prop)(x y a b:Nat):Prop:=E a b∧¬Kl E x y a b∧¬Kl E x y b a
section
variable {E : Nat → Nat → Prop} (hs : ∀ a b, E a b → E b a) (hi : ∀ a, ¬ E a a)
include hs hi
theorem Lf.sym {x y:Nat}(a b:Nat)(h:Lf E x y a b):Lf E x y b a:=⟨hs _ _ h.1,h.2.2,h.2.1⟩
theorem lf_pair {x y a b c:Nat}(hxy:E x y)(hall:∀p q,E p q→¬Kl E p q q p)(hab:Lf E x y a b)(hac:Lf E x y a c)(hbc:Kl E x y b c)(hne:¬Kl E a b a c)
  {p q r s:Nat} (h:Kl E a b p q∨Kl E a c p q) (g:Gm (Lf E x y) p q r s):Kl E a b r s∨Kl E a c r s:=by
 have eab:=hab.1;have eac:=hac.1;have ebc:=hbc.edge hxy
 have A1:∀{u v},Kl E b c u v→Kl E x y u v:=λh=>hbc.trans h
 have n1:¬Kl E b c a c:=λe=>hac.2.1 (A1 e)
 have n2:¬Kl E b c b a:=λe=>hab.2.2 (A1 e)
 have TA:∀{u v},Kl E b c u v→Kl E a b a u∧Kl E a c a v:=λh=>tri hs eab eac ebc n1 n2 h
 have m1:¬Kl E a b c b:=λe=>hab.2.2 (A1 ((e.op hs).sym hs (hs _ _ eab)))
 have m2:¬Kl E a b a c:=hne
 have TC:∀{u v},Kl E a b u v→Kl E c a c u∧Kl E c b c v:=λh=>tri hs (hs _ _ eac) (hs _ _ ebc) eab m1 m2 h
 have k1:¬Kl E a c b c:=λe=>hac.2.1 (A1 (e.sym hs eac))
 have k2:¬Kl E a c a b:=λe=>hne (e.sym hs eac)
 have TB:∀{u v},Kl E a c u v→Kl E b a b u∧Kl E b c b v:=λh=>tri hs (hs _ _ eab) ebc eac k1 k2 h
 have AA:∀{u v},Kl E x y u v→Kl E b c u v:=λh=>(hbc.sym hs hxy).trans h
 have notA:∀{u v},(Kl E a b u v∨Kl E a c u v)→¬Kl E b c u v∧¬Kl E b c v u:=λh=>by
  rcases h with h|h
  ·exact⟨λe=>hab.2.1 (A1 (e.trans (h.sym hs eab))),λe=>hab.2.2 (A1 (e.trans ((h.op hs).sym hs (hs _ _ eab))))⟩
  ·exact⟨λe=>hac.2.1 (A1 (e.trans (h.sym hs eac))),λe=>hac.2.2 (A1 (e.trans ((h.op hs).sym hs (hs _ _ eac))))⟩
 obtain⟨⟨ers,nrs,nsr⟩,g⟩:=g
 have epq:E p q:=h.elim (λh=>h.edge eab) (λh=>h.edge eac)
 rcases g with⟨rfl,g2,g3⟩|⟨rfl,g2,g3⟩
 ·
  by_cases hqs:E q s
  ·have hA:Kl E b c q s∨Kl E b c s q:=by
    apply Classical.byContradiction
    intro hn
    have⟨h1,h2⟩:=not_or.1 hn
    exact g2 ⟨hqs,λe=>h1 (AA e),λe=>h2 (AA e)⟩
   have nps:∀{u v},Kl E b c u v→((u=p∧v=s)→False)∧((u=s∧v=p)→False):=λhA=>⟨fun⟨e1,e2⟩=>nrs (A1 (by rw[←e1,←e2];exact hA)),fun⟨e1,e2⟩=>nsr (A1 (by rw[←e1,←e2];exact hA))⟩
   rcases hA with hA|hA
   ·
    rcases h with h|h
    ·
     right
     have t:=TA hA
     have hq:Kl E a b a q:=t.1
     have eaq:=hq.edge eab;have eas:=t.2.edge eac
     have m1':¬Kl E a q s q:=λe=>hab.2.2 (A1 (hA.trans (((hq.trans e).op hs).sym hs (hs _ _ eab))))
     have m2':¬Kl E a q a s:=λe=>hne ((hq.trans e).trans (t.2.sym hs eac))
     have:=(tri hs (hs _ _ eas) (hs _ _ hqs) eaq m1' m2' ((hq.sym hs eab).trans h)).1
     exact t.2.trans (this.op hs)
    ·
     exfalso
     have hps:=TA hA
     have n1':¬Kl E q s p s:=λe=>nrs (A1 (hA.trans e))
     have n2':¬Kl E q s q p:=λe=>(notA (.inr h)).2 (hA.trans e)
     have t:=(tri hs epq ers hqs n1' n2' (hA.sym hs ebc)).1
     have:Kl E a c p b:=h.trans t
     exact hi b ((TB this).2.edge ebc)
   ·
    rcases h with h|h
    ·exfalso
     have n1':¬Kl E s q p q:=λe=>(notA (.inl h)).1 (hA.trans e)
     have n2':¬Kl E s q s p:=λe=>nsr (A1 (hA.trans e))
     have t:=(tri hs ers epq (hs _ _ hqs) n1' n2' (hA.sym hs ebc)).2
     have:Kl E a b p c:=h.trans t
     exact hi c ((TC this).2.edge (hs _ _ ebc))
    ·left
     have t:=TA hA
     have eas:=t.1.edge eab;have eaq:=t.2.edge eac
     have hq:Kl E a c a q:=t.2
     have m1':¬Kl E a q s q:=λe=>hac.2.1 (A1 (hA.trans ((hq.trans e).sym hs eac)))
     have m2':¬Kl E a q a s:=λe=>hne (t.1.trans ((hq.trans e).sym hs eac))
     have:=(tri hs (hs _ _ eas) (hs _ _ hqs) eaq m1' m2' ((hq.sym hs eac).trans h)).1
     exact t.1.trans (this.op hs)
  ·exact h.imp (λh=>h.step ⟨ers,.inl ⟨rfl,hqs,g3⟩⟩) (λh=>h.step ⟨ers,.inl ⟨rfl,hqs,g3⟩⟩)
 ·
  by_cases hpr:E p r
  ·exfalso
   have hA:Kl E b c p r∨Kl E b c r p:=by
    apply Classical.byContradiction
    intro hn
    have⟨h1,h2⟩:=not_or.1 hn
    exact g2 ⟨hpr,λe=>h1 (AA e),λe=>h2 (AA e)⟩
   have eqp:=hs _ _ epq;have eqr:=hs _ _ ers
   rcases hA with hA|hA
   ·
    have n1':¬Kl E p r q r:=λe=>nsr (A1 (hA.trans e))
    have n2':¬Kl E p r p q:=λe=>(notA h).1 (hA.trans e)
    have t:=tri hs eqp eqr hpr n1' n2' (hA.sym hs ebc)
    have hb:=t.1.op hs
    rcases h with h|h
    ·
     have:Kl E c a c b:=(TC (h.trans hb)).1
     exact hac.2.2 (λT h1 h2=>by
      have e1:Kl E c b c a:=this.sym hs (hs _ _ eac)
      exact absurd (A1 ((e1.op hs))) hac.2.1)
    ·exact hi b ((TB (h.trans hb)).1.edge (hs _ _ eab))
   ·have n1':¬Kl E r p q p:=λe=>(notA h).2 (hA.trans e)
    have n2':¬Kl E r p r q:=λe=>nrs (A1 (hA.trans e))
    have t:=tri hs eqr eqp (hs _ _ hpr) n1' n2' (hA.sym hs ebc)
    have hc:=t.2.op hs
    rcases h with h|h
    ·exact hi c ((TC (h.trans hc)).1.edge (hs _ _ eac))
    ·have:Kl E b a b c:=(TB (h.trans hc)).1
     exact hab.2.2 (A1 ((this.sym hs (hs _ _ eab))))
  ·exact h.imp (λh=>h.step ⟨ers,.inr ⟨rfl,hpr,g3⟩⟩) (λh=>h.step ⟨ers,.inr ⟨rfl,hpr,g3⟩⟩)
end
end Go.Sx

namespace Go.Sx
structure Orn (E T:Nat→Nat→Prop):Prop where
 sub:∀a b,T a b→E a b
 all:∀a b,E a b→T a b∨T b a
 one:∀a b,T a b→¬T b a
 trn:∀a b c,T a b→T b c→T a c
section
variable {E : Nat → Nat → Prop} (hs : ∀ a b, E a b → E b a) (hi : ∀ a, ¬ E a a)
include hs
theorem Orn.gm {T:Nat→Nat→Prop}(o:Orn E T){a b c d:Nat}(h:T a b)(g:Gm E a b c d):T c d:=by
 obtain⟨h0,⟨rfl,g2,g3⟩|⟨rfl,g2,g3⟩⟩:=g
 ·rcases o.all _ _ h0 with e|e
  ·exact e
  ·exact absurd (hs _ _ (o.sub _ _ (o.trn _ _ _ e h))) g2
 ·rcases o.all _ _ h0 with e|e
  ·exact e
  ·exact absurd (o.sub _ _ (o.trn _ _ _ h e)) g2
theorem Orn.cl {T:Nat→Nat→Prop}(o:Orn E T){a b c d:Nat}(h:T a b)(g:Kl E a b c d):T c d:=g T h (λ_ _ _ _ h1 h2=>o.gm hs h1 h2)
theorem Orn.anti {T:Nat→Nat→Prop}(o:Orn E T)(p q:Nat)(h:E p q):¬Kl E p q q p:=λe=>by
 rcases o.all _ _ h with t|t
 ·exact o.one _ _ t (o.cl hs t e)
 ·exact o.one _ _ t (o.cl hs t (e.op hs))
include hi
theorem lf_one {x y a b c:Nat}(hxy:E x y)(hall:∀p q,E p q→¬Kl E p q q p)(hab:Lf E x y a b)(hac:Lf E x y a c)(hbc:Kl E x y b c)(hne:¬Kl E a b a c)
  {p q:Nat} (h0:Kl E a b p q∨Kl E a c p q):¬Kl (Lf E x y) p q q p:=λh=>by
 have hP:=h (λr s=>Kl E a b r s∨Kl E a c r s) h0 (λ_ _ _ _ h1 g=>lf_pair hs hi hxy hall hab hac hbc hne h1 g)
 have eab:=hab.1;have eac:=hac.1
 have bad:∀{p q},Kl E a b p q→Kl E a c q p→False:=λh1 h2=>by
  have:Kl E a c b c:=Eu hs hi eac (hall _ _ eac) (h2.trans ((h1.op hs).sym hs (hs _ _ eab))) Kl.refl
  exact hac.2.1 (hbc.trans (this.sym hs eac))
 rcases h0 with h0|h0<;>rcases hP with h1|h1
 ·exact hall p q (h0.edge eab) ((h0.sym hs eab).trans h1)
 ·exact bad h0 h1
 ·exact bad h1 h0
 ·exact hall p q (h0.edge eac) ((h0.sym hs eac).trans h1)
theorem lf_anti {x y:Nat}(hxy:E x y)(hall:∀p q,E p q→¬Kl E p q q p)(p q:Nat)(hpq:Lf E x y p q):¬Kl (Lf E x y) p q q p:=by
 by_cases hcl:∀u v r s,Kl E p q u v→Gm (Lf E x y) u v r s→Kl E p q r s
 ·intro h
  exact hall p q hpq.1 (h (λu v=>Kl E p q u v) Kl.refl (λu v r s h1 g=>hcl u v r s h1 g))
 ·obtain⟨u,v,r,s,h1,g,h2⟩:∃u v r s,Kl E p q u v∧Gm (Lf E x y) u v r s∧¬Kl E p q r s:=by
   apply Classical.byContradiction
   intro hn
   apply hcl
   intro u v r s h1 g
   apply Classical.byContradiction
   intro h2
   exact hn ⟨u,v,r,s,h1,g,h2⟩
  have euv:=h1.edge hpq.1
  have luv:Lf E x y u v:=⟨euv,λe=>hpq.2.1 (e.trans (h1.sym hs hpq.1)),λe=>hpq.2.2 (e.trans ((h1.op hs).sym hs (hs _ _ hpq.1)))⟩
  obtain⟨lrs,⟨rfl,g2,g3⟩|⟨rfl,g2,g3⟩⟩:=g
  ·have evs:E v s:=by
    apply Classical.byContradiction
    intro hn
    exact h2 (h1.step ⟨lrs.1,.inl ⟨rfl,hn,g3⟩⟩)
   have hA:Kl E x y v s∨Kl E x y s v:=by
    apply Classical.byContradiction
    intro hn
    exact g2 ⟨evs,λe=>hn (.inl e),λe=>hn (.inr e)⟩
   rcases hA with hA|hA
   ·exact lf_one hs hi hxy hall luv lrs hA (λe=>h2 (h1.trans e)) (.inl (h1.sym hs hpq.1))
   ·exact lf_one hs hi hxy hall lrs luv hA (λe=>h2 (h1.trans (e.sym hs lrs.1))) (.inr (h1.sym hs hpq.1))
  ·have eur:E u r:=by
    apply Classical.byContradiction
    intro hn
    exact h2 (h1.step ⟨lrs.1,.inr ⟨rfl,hn,g3⟩⟩)
   have hA:Kl E x y u r∨Kl E x y r u:=by
    apply Classical.byContradiction
    intro hn
    exact g2 ⟨eur,λe=>hn (.inl e),λe=>hn (.inr e)⟩
   have h1':=(h1.op hs).sym hs (hs _ _ hpq.1)
   have lvu:=Lf.sym hs hi _ _ luv
   have lvr:=Lf.sym hs hi _ _ lrs
   have sL:∀a b,Lf E x y a b→Lf E x y b a:=λa b=>Lf.sym hs hi a b
   intro h
   have h':=h.op sL
   rcases hA with hA|hA
   ·exact lf_one hs hi hxy hall lvu lvr hA (λe=>h2 (h1.trans (e.op hs))) (.inl h1') h'
   ·exact lf_one hs hi hxy hall lvr lvu hA (λe=>h2 (h1.trans ((e.op hs).sym hs lrs.1))) (.inr h1') h'
theorem lf_or {x y:Nat}(hxy:E x y)(hno:¬Kl E x y y x){T:Nat→Nat→Prop}(o:Orn (Lf E x y) T):Orn E (λa b=>Kl E x y a b∨T a b):=by
 have noboth:∀{a b},Kl E x y a b→¬Kl E x y b a:=λh1 h2=>hno (h1.trans ((h2.op hs).sym hs (hs _ _ hxy)))
 refine⟨λa b h=>h.elim (λh=>h.edge hxy) (λh=>(o.sub _ _ h).1),λa b h=> ?_,λa b h1 h2=> ?_,λa b c h1 h2=> ?_⟩
 ·by_cases e1:Kl E x y a b
  ·exact .inl (.inl e1)
  ·by_cases e2:Kl E x y b a
   ·exact .inr (.inl e2)
   ·exact(o.all a b ⟨h,e1,e2⟩).imp .inr .inr
 ·rcases h1 with h1|h1<;>rcases h2 with h2|h2
  ·exact noboth h1 h2
  ·exact(o.sub _ _ h2).2.2 h1
  ·exact(o.sub _ _ h1).2.2 h2
  ·exact o.one _ _ h1 h2
 ·rcases h1 with h1|h1<;>rcases h2 with h2|h2
  ·exact .inl (Eu hs hi hxy hno h1 h2)
  ·have l2:=o.sub _ _ h2
   have hac:a≠c:=λe=>by subst e;exact l2.2.2 h1
   have eac:E a c:=by
    apply Classical.byContradiction
    intro hn
    exact l2.2.2 (h1.step ⟨hs _ _ l2.1,.inr ⟨rfl,hn,hac⟩⟩)
   by_cases e1:Kl E x y a c
   ·exact .inl e1
   ·by_cases e2:Kl E x y c a
    ·exact absurd (Eu hs hi hxy hno e2 h1) l2.2.2
    ·rcases o.all a c ⟨eac,e1,e2⟩ with e|e
     ·exact .inr e
     ·exact absurd h1 ((o.sub _ _ (o.trn _ _ _ h2 e)).2.2)
  ·have l1:=o.sub _ _ h1
   have hac:c≠a:=λe=>by subst e;exact l1.2.2 h2
   have eac:E a c:=by
    apply Classical.byContradiction
    intro hn
    exact l1.2.2 (h2.step ⟨hs _ _ l1.1,.inl ⟨rfl,λe=>hn (hs _ _ e),hac⟩⟩)
   by_cases e1:Kl E x y a c
   ·exact .inl e1
   ·by_cases e2:Kl E x y c a
    ·exact absurd (Eu hs hi hxy hno h2 e2) l1.2.2
    ·rcases o.all a c ⟨eac,e1,e2⟩ with e|e
     ·exact .inr e
     ·exact absurd h2 ((o.sub _ _ (o.trn _ _ _ e h1)).2.2)
  ·exact .inr (o.trn _ _ _ h1 h2)
end
end Go.Sx

namespace Go.Sx
def Out (l:LI)(a0 b0 a b:Int):Prop:=∀i j,a0≤i→i<j→j<b0→¬(a≤i∧j<b)→at' l i≤at' l j
theorem Out.keep {a0 a b b0:Int}{l l':LI}(h:Rg a b l l')(h0:0≤a0)(ha:a0≤a)(hb:b≤b0)(c:Out l a0 b0 a b):Out l' a0 b0 a b:=by
 intro i j h1 h2 h3 h4
 by_cases hi:a≤i∧i<b
 ·rw[h.out j (by omega) (by omega)]
  exact h.all (λx=>x≤at' l j) (λk k1 k2=>c k j (by omega) (by omega) h3 (by omega)) i hi.1 hi.2
 ·rw[h.out i (by omega) (by omega)]
  by_cases hj:a≤j∧j<b
  ·exact h.all (λx=>at' l i≤x) (λk k1 k2=>c i k (by omega) (by omega) (by omega) (by omega)) j hj.1 hj.2
  ·rw[h.out j (by omega) (by omega)];exact c i j h1 h2 h3 h4
theorem DP :∀(n:Nat) (l0:LI) (a0 b0 lim:Int),0≤a0→a0≤b0→b0≤l0.length→l0.length≤1000000→b0-a0≤16→b0-a0≤12+lim→0≤lim→lim≤64→
  (0<a0→∀k,a0≤k→k<b0→at' l0 (a0-1)≤at' l0 k)→b0-a0<n→∃l',D.S0 n l0 a0 b0 lim=some l'∧Rg a0 b0 l0 l'∧Srt l' a0 b0:=by
 intro n
 induction n with
 |zero=>intro l0 a0 b0 lim h1 h2 h3 h4 h5 h6 h7 h8 h9 h10;omega
 |succ n ih=>
  intro l0 a0 b0 lim h1 h2 h3 h4 h5 h6 h7 h8 h9 h10
  unfold D.S0
  refine AV (λs=>Rg a0 b0 l0 s.1∧Out s.1 a0 b0 s.2.1 s.2.2.1∧a0≤s.2.1∧s.2.1≤s.2.2.1∧s.2.2.1≤b0∧s.2.2.1-s.2.1≤12+s.2.2.2.1∧0≤s.2.2.2.1∧s.2.2.2.1≤64∧(0<s.2.1→∀k,s.2.1≤k→k<s.2.2.1→at' s.1 (s.2.1-1)≤at' s.1 k))
   (λs=>(s.2.2.1-s.2.1).toNat) (λr=>Rg a0 b0 l0 r∧Srt r a0 b0) ?_ ?_ ?_
  ·rintro⟨l,a,b,lm,bal,par⟩ ⟨hR,hO,g1,g2,g3,g4,g5,g6,g7⟩
   dsimp only at hR hO g1 g2 g3 g4 g5 g6 g7 ⊢
   have hll:=hR.len
   have fin:∀l',Rg a b l l'→Srt l' a b→Rg a0 b0 l0 l'∧Srt l' a0 b0:=λl' hr hs=>
    ⟨hR.trans (hr.widen g1 g3 h1),λi j k1 k2 k3=>by
     by_cases hc:a≤i∧j<b
     ·exact hs i j hc.1 k2 hc.2
     ·exact(hO.keep hr h1 g1 g3) i j k1 k2 k3 hc⟩
   rw[w64 (show-9223372036854775808≤b-a by omega) (by omega)]
   by_cases hs:b-a≤12
   ·obtain⟨l',e,r1,r2⟩:=CG l a b (by omega) g2 (by omega) (by omega)
    refine⟨.inr l',?_,fin l' r1 r2⟩
    simp only[hs,decide_true,cond_true,e,bs]
   ·have hl0:(lm==0)=false:=by simp;omega
    simp only[hs,decide_false,cond_false,hl0]
    refine BG (λq:LI×Int=>Rg a b l q.1∧b-a≤13+q.2∧0≤q.2∧q.2≤64) ?_ ?_
    ·cases bal
     ·obtain⟨l1,e,r1⟩:=CJ l a b (by omega) (by omega) (by omega) (by omega) (by omega)
      refine⟨(l1,lm-1),?_,r1,by dsimp only;omega,by dsimp only;omega,by dsimp only;omega⟩
      simp only[Bool.not_false,cond_true,e,bs]
      rw[w64 (by omega) (by omega)]
     ·exact⟨(l,lm),rfl,Rg.refl _ _ _,by dsimp only;omega,by dsimp only;omega,by dsimp only;omega⟩
    rintro⟨l1,lm1⟩ ⟨hr1,k1,k2,k3⟩
    dsimp only at hr1 k1 k2 k3 ⊢
    have hl1:=hr1.len
    obtain⟨y,ey,c1,c2,c3⟩:=C7 l1 a b (by omega) (by omega) (by omega) (by omega) (by omega)
    rw[ey,bs]
    refine BG (λq:LI×Int×Int=>Rg a b l q.1∧a≤q.2.1∧q.2.1<b) ?_ ?_
    ·cases (y.2.1==2)
     ·exact⟨_,rfl,by dsimp only;rw[c1];exact hr1,c2,c3⟩
     ·obtain⟨l2,e2,r2⟩:=CS l1 a b (by omega) (by omega) (by omega) (by omega)
      rw[c1]
      simp only[cond_true,e2,bs]
      rw[w64 (show-9223372036854775808≤b-1 by omega) (by omega),w64 (show-9223372036854775808≤y.1-a by omega) (by omega),w64 (show-9223372036854775808≤b-1-(y.1-a) by omega) (by omega)]
      exact⟨_,rfl,hr1.trans r2,by dsimp only;omega,by dsimp only;omega⟩
    rintro⟨l2,p,hint⟩ ⟨hr2,p1,p2⟩
    dsimp only at hr2 p1 p2 ⊢
    have hl2:=hr2.len
    refine BG (λq:LI ⊕ LI=>match q with| .inl q=>q=l2| .inr q=>q=l2∧Srt l2 a b) ?_ ?_
    ·cases ((bal&&par)&&(hint==1))
     ·exact⟨.inl l2,rfl,rfl⟩
     ·obtain⟨y2,e2,d1,d2⟩:=Cu l2 a b (by omega) (by omega) (by omega) (by omega) (by omega)
      simp only[cond_true,e2,bs,d1]
      cases hy:y2.1
      ·exact⟨.inl l2,rfl,rfl⟩
      ·exact⟨.inr l2,rfl,rfl,d2 hy⟩
    rintro(q|q) hq
    case inr=>
     obtain⟨rfl,hq⟩:=hq
     exact⟨.inr q,rfl,fin q hr2 hq⟩
    dsimp only at hq ⊢
    subst hq
    have hO2:=hO.keep hr2 h1 g1 g3
    have g7':0<a→∀k,a≤k→k<b→at' q (a-1)≤at' q k:=λha k m1 m2=>by
     rw[hr2.out (a-1) (by omega) (.inl (by omega))]
     exact hr2.all (λx=>at' l (a-1)≤x) (g7 ha) k m1 m2
    refine BG (λc:Bool=>c=true→0<a∧at' q p≤at' q (a-1)) ?_ ?_
    ·by_cases ha:0<a
     ·have r1:idx q (a-1)=some (at' q (a-1)):=AD (by omega) (by omega)
      have r2:idx q p=some (at' q p):=AD (by omega) (by omega)
      rw[w64 (show-9223372036854775808≤a-1 by omega) (by omega)]
      simp only[ha,decide_true,cond_true,r1,r2,B5,bs]
      exact⟨_,rfl,λh=>⟨by trivial,by simpa using h⟩⟩
     ·simp only[ha,decide_false,cond_false]
      exact⟨_,rfl,λh=>by cases h⟩
    intro c hc
    cases c
    ·
     simp only[cond_false]
     obtain⟨⟨mid,par',l3⟩,e3,P⟩:=Dn q a b p (by omega) (by omega) (by omega) p1 p2
     rw[e3,bs]
     obtain⟨hr3,m1,m2,m3,m4⟩:=P
     dsimp only at hr3 m1 m2 m3 m4 ⊢
     have hl3:=hr3.len
     have hO3:=hO2.keep hr3 h1 g1 g3
     have g7'':0<a→∀k,a≤k→k<b→at' l3 (a-1)≤at' l3 k:=λha k n1 n2=>by
      rw[hr3.out (a-1) (by omega) (.inl (by omega))]
      exact hr3.all (λx=>at' q (a-1)≤x) (g7' ha) k n1 n2
     have hR3:Rg a0 b0 l0 l3:=hR.trans ((hr2.trans hr3).widen g1 g3 h1)
     rw[w64 (show-9223372036854775808≤mid-a by omega) (by omega),w64 (show-9223372036854775808≤b-mid by omega) (by omega),w64 (show-9223372036854775808≤mid+1 by omega) (by omega)]
     by_cases hside:mid-a<b-mid
     ·simp only[hside,decide_true,cond_true]
      obtain⟨l4,e4,r4,s4⟩:=ih l3 a mid lm1 (by omega) m1 (by omega) (by omega) (by omega) (by omega) k2 k3 (λha k n1 n2=>g7'' ha k n1 (by omega)) (by omega)
      rw[e4,bs]
      have hl4:=r4.len
      have em:∀k,mid≤k→at' l4 k=at' l3 k:=λk hk=>r4.out k (by omega) (.inr hk)
      have lf:∀k,a≤k→k<mid→at' l4 k≤at' l4 mid:=λk n1 n2=>by
       rw[em mid (Int.le_refl _)];exact r4.all (λx=>x≤at' l3 mid) m3 k n1 n2
      refine⟨.inl _,rfl,⟨hR3.trans (r4.widen g1 (by omega) h1),?_,by dsimp only;omega,by dsimp only;omega,g3,by dsimp only;omega,k2,k3,?_⟩,by dsimp only;omega⟩
      ·have hO4:=hO3.keep (r4.widen (Int.le_refl a) (by omega) (by omega)) h1 g1 g3
       intro i j n1 n2 n3 n4
       dsimp only at n4 ⊢
       by_cases hin:a≤i∧j<b
       ·by_cases hj:j<mid
        ·exact s4 i j hin.1 n2 hj
        ·have hi:i≤mid:=by omega
         have e1:at' l4 i≤at' l4 mid:=by
          by_cases e:i=mid
          ·rw[e];exact Int.le_refl _
          ·exact lf i hin.1 (by omega)
         have e2:at' l4 mid≤at' l4 j:=by
          by_cases e:j=mid
          ·rw[e];exact Int.le_refl _
          ·rw[em mid (Int.le_refl _),em j (by omega)];exact m4 j (by omega) hin.2
         omega
       ·exact hO4 i j n1 n2 n3 hin
      ·intro _ k n1 n2
       dsimp only at n1 n2 ⊢
       rw[show mid+1-1=mid by omega,em mid (Int.le_refl _),em k (by omega)]
       exact m4 k (by omega) n2
     ·simp only[hside,decide_false,cond_false]
      obtain⟨l4,e4,r4,s4⟩:=ih l3 (mid+1) b lm1 (by omega) (by omega) (by omega) (by omega) (by omega) (by omega) k2 k3 (λ_ k n1 n2=>by rw[show mid+1-1=mid by omega];exact m4 k (by omega) n2) (by omega)
      rw[e4,bs]
      have hl4:=r4.len
      have em:∀k,0≤k→k≤mid→at' l4 k=at' l3 k:=λk h0 hk=>r4.out k h0 (.inl (by omega))
      have rt:∀k,mid<k→k<b→at' l4 mid≤at' l4 k:=λk n1 n2=>by
       rw[em mid (by omega) (Int.le_refl _)];exact r4.all (λx=>at' l3 mid≤x) (λk q1 q2=>m4 k (by omega) q2) k (by omega) n2
      refine⟨.inl _,rfl,⟨hR3.trans (r4.widen (by omega) g3 h1),?_,g1,m1,by dsimp only;omega,by dsimp only;omega,k2,k3,?_⟩,by dsimp only;omega⟩
      ·have hO4:=hO3.keep (r4.widen (by omega) (Int.le_refl b) (by omega)) h1 g1 g3
       intro i j n1 n2 n3 n4
       dsimp only at n4 ⊢
       by_cases hin:a≤i∧j<b
       ·by_cases hi:mid<i
        ·exact s4 i j (by omega) n2 hin.2
        ·have hj:mid≤j:=by omega
         have e1:at' l4 i≤at' l4 mid:=by
          by_cases e:i=mid
          ·rw[e];exact Int.le_refl _
          ·rw[em i (by omega) (by omega),em mid (by omega) (Int.le_refl _)];exact m3 i hin.1 (by omega)
         have e2:at' l4 mid≤at' l4 j:=by
          by_cases e:j=mid
          ·rw[e];exact Int.le_refl _
          ·exact rt j (by omega) hin.2
         omega
       ·exact hO4 i j n1 n2 n3 hin
      ·intro ha k n1 n2
       dsimp only at ha n1 n2 ⊢
       rw[em (a-1) (by omega) (by omega),em k (by omega) (by omega)]
       exact g7'' ha k n1 (by omega)
    ·
     simp only[cond_true]
     obtain⟨hc1,hc2⟩:=hc rfl
     obtain⟨⟨mid,l3⟩,e3,hr3,m1,m2,m3,m4⟩:=CD q a b p (by omega) (by omega) (by omega) p1 p2
     rw[e3,bs]
     dsimp only at hr3 m1 m2 m3 m4 ⊢
     have hl3:=hr3.len
     have hO3:=hO2.keep hr3 h1 g1 g3
     have lw:∀k,a≤k→k<b→at' q p≤at' l3 k:=λk n1 n2=>
      hr3.all (λx=>at' q p≤x) (λk q1 q2=>Int.le_trans hc2 (g7' hc1 k q1 q2)) k n1 n2
     refine⟨.inl _,rfl,⟨hR.trans ((hr2.trans hr3).widen g1 g3 h1),?_,by dsimp only;omega,m2,g3,by dsimp only;omega,k2,k3,?_⟩,by dsimp only;omega⟩
     ·intro i j n1 n2 n3 n4
      dsimp only at n4 ⊢
      by_cases hin:a≤i∧j<b
      ·have:=m3 i hin.1 (by omega)
       have:=lw j (by omega) hin.2
       omega
      ·exact hO3 i j n1 n2 n3 hin
     ·intro _ k n1 n2
      dsimp only at n1 n2 ⊢
      have:=m3 (mid-1) (by omega) (by omega)
      have:=m4 k n1 n2
      omega
  ·exact⟨Rg.refl _ _ _,λi j n1 n2 n3 n4=>by dsimp only at n4;omega,Int.le_refl _,h2,Int.le_refl _,h6,h7,h8,h9⟩
  ·rintro r hr
   exact⟨r,rfl,hr⟩
theorem sorted_spec (l:LI)(hl:l.length≤16):∃y,D.m1 l=some y∧List.Perm y l∧Srt y 0 y.length:=by
 unfold D.m1 D.o1 D.u1 D.t1 D.S D.m
 rw[if_pos (show l.length≤1000000 by omega)]
 simp only[bs]
 rw[wu64 (by omega) (by omega),if_pos (by omega)]
 simp only[bs]
 have hk:∀k:Nat,k≤16→k≤12+Lib.bitLen k∧Lib.bitLen k≤64:=by decide
 obtain⟨k1,k2⟩:=hk l.length hl
 have e:((l.length:Int)).toNat=l.length:=by omega
 have hb:=E5
 obtain⟨y,hy,hr,hs⟩:=DP CO l 0 l.length (Lib.bitLen l.length:Nat) (by omega) (by omega) (by omega) (by omega) (by omega) (by omega) (by omega) (by omega) (λh=>absurd h (by omega)) (by omega)
 rw[e,hy]
 refine⟨y,rfl,hr.perm,?_⟩
 rw[hr.len];exact hs
end Go.Sx



namespace Go.Sx
def Sh {α:Type}(xs:List α):Prop:=xs.length≤4294967296
theorem Ee (a b c:Int):D.c a b c=some (decide (b≤a)&&decide (a≤c)):=rfl
theorem inRange_eq (a b c:Int):D.U a b c=some (decide (b≤a)&&decide (a≤c)):=rfl
theorem any_beq (xs:LI)(n:Int):xs.any (λx=>x==n)=decide (n∈xs):=by
 rw[Bool.eq_iff_iff,List.any_eq_true];simp
theorem CH (xs:LI)(n:Int)(h:Sh xs):D.d xs n=some (decide (n∈xs)):=by
 unfold Sh at h
 unfold D.d
 refine(loop_anyb xs.length (λi=>xs.getD i 0==n) true (λi hi=> ?_) ?_ rfl rfl).trans ?_
 ·simp only[dlt hi,cond_true,AK hi,bs,wi' hi (by omega),AQ hi]
  cases xs[i]==n<;>rfl
 ·simp only[Bg,cond_false]
 ·rw[range_any_list xs (λx=>x==n) _ (λi hi=>by rw[AQ hi]),any_beq]
theorem D8 (xs:LI)(n:Int)(h:Sh xs):D.r xs n=some (decide (n∈xs)):=by
 unfold Sh at h
 unfold D.r D.B0
 have e:An (σ:=Int) (ρ:=(Unit) ⊕ (Int)) (fun(x_26:Int)=>cond (decide (x_26<(xs.length:Int))) ((idx xs x_26).bind λe_39=>cond (n==e_39) (some (.inr (.inr x_26))) (some (.inl (IntKind.i64.wrap (x_26+1))))) (some (.inr (.inl ())))) 0=
   some (((List.range xs.length).findSome? (λi=>if xs.getD i 0==n then some (Sum.inr (i:Int)) else none)).getD (.inl ())):=by
  refine D1 xs.length _ _ (λi hi=> ?_) ?_
  ·simp only[dlt hi,cond_true,AK hi,bs,wi' hi (by omega),AQ hi]
   rw[show (n==xs[i])=(xs[i]==n) from Bool.beq_comm ..]
   cases xs[i]==n<;>rfl
  ·simp only[Bg,cond_false]
 rw[e,bs]
 cases hf:(List.range xs.length).findSome? (λi=>if xs.getD i 0==n then some (Sum.inr (i:Int):Unit ⊕ Int) else none) with
 |none=>
  have:n∉xs:=λhm=>by
   obtain⟨i,hi,e⟩:=List.getElem_of_mem hm
   have:=(List.findSome?_eq_none_iff.1 hf) i (List.mem_range.2 hi)
   rw[AQ hi,e] at this
   simp at this
  simp[this]
 |some r=>
  obtain⟨i,hi,hr⟩:=List.exists_of_findSome?_eq_some hf
  have hi':=List.mem_range.1 hi
  rw[AQ hi'] at hr
  split at hr
  ·rename_i hc
   cases hr
   have:n∈xs:=by rw[←(beq_iff_eq.1 hc)];exact List.getElem_mem _
   simp[this]
  ·cases hr
def SetOf (xs:LI)(n:Int):Prop:=Inc xs∧∀x∈xs,0≤x∧x<n
theorem SetOf.len :∀{xs:LI} {n a:Int},Inc xs→(∀x∈xs,a≤x∧x<n)→xs=[]∨(xs.length:Int)≤n-a
 |[],_,_,_,_=> .inl rfl
 |x::xs,n,a,h,hr=>by
  right
  have h':=List.pairwise_cons.1 h
  have hx:=hr x (by simp)
  rcases SetOf.len (a:=x+1) (n:=n) h'.2 (λy hy=>⟨by have:=h'.1 y hy;omega,(hr y (by simp[hy])).2⟩) with e|e
  ·subst e;simp;omega
  ·simp;omega
theorem SetOf.length_le {xs:LI}{n:Int}(h:SetOf xs n)(hn:0≤n):(xs.length:Int)≤n:=by
 rcases SetOf.len h.1 h.2 with e|e
 ·subst e;simpa using hn
 ·omega
theorem inc_iff (xs:LI):Inc xs↔∀i (hi:i+1<xs.length),xs[i]<xs[i+1]:=by
 unfold Inc
 constructor
 ·intro h i hi
  exact List.pairwise_iff_getElem.1 h i (i+1) (by omega) hi (by omega)
 ·intro h
  rw[List.pairwise_iff_getElem]
  intro i j hi hj hij
  have key:∀k,∀hk:i+k+1<xs.length,xs[i]<xs[i+k+1]:=by
   intro k
   induction k with
   |zero=>intro hk;exact h i hk
   |succ k ih=>intro hk;have:=ih (by omega);have:=h (i+k+1) hk;exact Int.lt_trans (ih (by omega)) this
  obtain⟨k,rfl⟩:∃k,j=i+k+1:=⟨j-i-1,by omega⟩
  exact key k hj
def DC (xs:LI)(n:Int):Bool:=(List.range xs.length).all λi=>(decide (0≤xs.getD i 0)&&decide (xs.getD i 0≤n-1))&& !(decide (0<i)&&decide (xs.getD i 0≤xs.getD (i-1) 0))
theorem C5 (xs:LI)(n:Int):DC xs n=true↔SetOf xs n:=by
 unfold DC SetOf
 rw[De,inc_iff]
 constructor
 ·intro h
  refine⟨λi hi=> ?_,λx hx=> ?_⟩
  ·have:=h (i+1) hi
   simp[hi,show i<xs.length by omega] at this
   omega
  ·obtain⟨i,hi,rfl⟩:=List.getElem_of_mem hx
   have:=h i hi
   simp[hi] at this
   omega
 ·rintro⟨h1,h2⟩ i hi
  have h3:=h2 _ (List.getElem_mem hi)
  simp[hi]
  refine⟨by omega,?_⟩
  rcases Nat.eq_zero_or_pos i with h0|h0
  ·exact .inl h0
  ·right
   have:=h1 (i-1) (by omega)
   have e:i-1+1=i:=by omega
   simp only[e] at this
   have e2:xs[i-1]?.getD 0=xs[i-1]:=by rw[List.getElem?_eq_getElem (by omega)];rfl
   rw[e2];exact this
theorem DD (xs:LI)(n:Int)(h:Sh xs)(h0:0≤n)(hn:n≤4294967296):D.y xs n=some (DC xs n):=by
 unfold Sh at h
 unfold D.y
 refine Dx xs.length _ false (λi hi=> ?_) ?_ rfl rfl
 ·simp only[dlt hi,cond_true,AK hi,bs,wi' hi (by omega),AQ hi,inRange_eq]
  rw[w64 (x:=n-1) (by omega) (by omega)]
  cases (decide (0≤xs[i])&&decide (xs[i]≤n-1))
  ·simp
  ·by_cases h0:0<i
   ·have e1:IntKind.i64.wrap ((i:Int)-1)=((i-1:Nat):Int):=by rw[w64 (by omega) (by omega)];omega
    have hd:decide ((0:Int)<(i:Int))=true:=by simp;omega
    simp only[Bool.not_true,cond_false,hd,cond_true,e1,AK (show i-1<xs.length by omega),bs,AQ (show i-1<xs.length by omega),h0,decide_true,Bool.true_and]
    cases decide (xs[i]≤xs[i-1])<;>rfl
   ·have hd:decide ((0:Int)<(i:Int))=false:=by simp;omega
    simp only[Bool.not_true,cond_false,hd,bs,h0,decide_false,Bool.false_and,Bool.not_false,Bool.and_true,if_true]
 ·simp only[Bg,cond_false]
theorem l1Set_eq (xs:LI)(n:Int)(h:Sh xs)(h0:0≤n)(hn:n≤4294967296):D.x xs n=some (DC xs n):=by
 have hh:=h
 unfold Sh at h
 unfold D.x
 by_cases hl:n<xs.length
 ·have:DC xs n=false:=by
   cases hb:DC xs n
   ·rfl
   ·have:=((C5 xs n).1 hb).length_le h0;omega
  simp[hl,this]
 ·simp only[hl,decide_false,cond_false]
  refine Dx xs.length _ false (λi hi=> ?_) ?_ rfl rfl
  ·simp only[dlt hi,cond_true,AK hi,bs,wi' hi (by omega),AQ hi,Ee]
   rw[w64 (x:=n-1) (by omega) (by omega)]
   cases (decide (0≤xs[i])&&decide (xs[i]≤n-1))
   ·simp
   ·by_cases h0:0<i
    ·have e1:IntKind.i64.wrap ((i:Int)-1)=((i-1:Nat):Int):=by rw[w64 (by omega) (by omega)];omega
     have hd:decide ((0:Int)<(i:Int))=true:=by simp;omega
     simp only[Bool.not_true,cond_false,hd,cond_true,e1,AK (show i-1<xs.length by omega),bs,AQ (show i-1<xs.length by omega),h0,decide_true,Bool.true_and]
     cases decide (xs[i]≤xs[i-1])<;>rfl
    ·have hd:decide ((0:Int)<(i:Int))=false:=by simp;omega
     simp only[Bool.not_true,cond_false,hd,bs,h0,decide_false,Bool.false_and,Bool.not_false,Bool.and_true,if_true]
  ·simp only[Bg,cond_false]
def row (g:LL)(v:Nat):LI:=g.getD v []
theorem row_eq {g:LL}{v:Nat}(h:v<g.length):row g v=g[v]:=AQ h _
def adj (g:LL)(u v:Nat):Prop:=(v:Int)∈row g u
structure GOk (g:LL):Prop where
 n1:1≤g.length
 n16:g.length≤16
 rows:∀v,v<g.length→SetOf (row g v) g.length
 irr:∀v,v<g.length→¬adj g v v
 sym:∀u v,u<g.length→adj g u v→adj g v u
theorem GOk.mem {g:LL}(h:GOk g){u:Nat}(hu:u<g.length){x:Int}(hx:x∈row g u):∃v:Nat,x=v∧v<g.length∧adj g u v:=by
 have:=(h.rows u hu).2 x hx
 refine⟨x.toNat,by omega,by omega,?_⟩
 unfold adj
 rw[show ((x.toNat:Nat):Int)=x by omega];exact hx
theorem GOk.row_len {g:LL}(h:GOk g){u:Nat}(hu:u<g.length):(row g u).length≤16:=by
 have:=(h.rows u hu).length_le (by omega)
 have:=h.n16
 omega
theorem GOk.lt {g:LL}(h:GOk g){u v:Nat}(hu:u<g.length)(ha:adj g u v):v<g.length:=by
 obtain⟨w,h1,h2,_⟩:=h.mem hu ha
 omega
def Sh2 (g:LL):Prop:=Sh g∧∀r∈g,Sh r
theorem Sh2.row {g:LL}(h:Sh2 g){v:Nat}(hv:v<g.length):Sh (row g v):=by
 rw[row_eq hv];exact h.2 _ (List.getElem_mem hv)
theorem BH {g:LL}{v:Nat}(h:v<g.length):idx g (v:Int)=some (row g v):=by rw[row_eq h,AK h]
def gB1 (g:LL):Bool:=(List.range g.length).all λv=>DC (row g v) g.length&& !decide ((v:Int)∈row g v)
def gB2 (g:LL):Bool:=(List.range g.length).all λv=>(row g v).all λx=>decide ((v:Int)∈row g x.toNat)
def gB (g:LL):Bool:=decide (1≤g.length)&&decide (g.length≤16)&&gB1 g&&gB2 g
theorem gB_iff (g:LL):gB g=true↔GOk g:=by
 unfold gB gB1 gB2
 simp only[Bool.and_eq_true,decide_eq_true_eq,C5,Bool.not_eq_true',decide_eq_false_iff_not,List.all_eq_true,List.mem_range]
 constructor
 ·rintro⟨⟨⟨h1,h2⟩,h3⟩,h4⟩
  refine⟨h1,h2,λv hv=>(h3 v hv).1,λv hv=>(h3 v hv).2,λu v hu ha=> ?_⟩
  have:=h4 u hu v ha
  unfold adj
  simpa using this
 ·intro h
  refine⟨⟨⟨h.n1,h.n16⟩,λv hv=>⟨h.rows v hv,h.irr v hv⟩⟩,λv hv x hx=> ?_⟩
  obtain⟨u,rfl,hu,ha⟩:=h.mem hv hx
  have:=h.sym v u hv ha
  simpa [adj] using this
theorem DZ (g:LL)(h:Sh2 g):D.J g=some (gB g):=by
 have hl:g.length≤4294967296:=h.1
 unfold D.J D.P0
 simp only[bs,Ee]
 by_cases hn:1≤g.length∧g.length≤16
 ·have e:(decide ((1:Int)≤(g.length:Int))&&decide ((g.length:Int)≤16))=true:=by simp;omega
  simp only[e,Bool.not_true,cond_false]
  refine(EP g.length (λv=>DC (row g v) g.length&& !decide ((v:Int)∈row g v)) (.inl ()) (.inr false) (λv hv=> ?_) ?_).trans ?_
  rotate_left
  ·simp only[Bg,cond_false]
  ·show cond (gB1 g) _ _=_
   have e4:gB g=(gB1 g&&gB2 g):=by unfold gB;simp[hn.1,hn.2]
   rw[e4]
   cases hc:gB1 g with
   |false=>rfl
   |true=>
    rw[cond_true,Bool.true_and]
    refine Dx g.length _ false (λv hv=> ?_) ?_ rfl rfl
    ·have hset:SetOf (row g v) g.length:=by
      have:=(De _ _).1 hc v hv
      simp only[Bool.and_eq_true] at this
      exact(C5 _ _).1 this.1
     simp only[dlt hv,cond_true]
     refine(EP (row g v).length (λi=>decide ((v:Int)∈row g ((row g v).getD i 0).toNat)) (.inl ()) (.inr false) (λi hi=> ?_) ?_).trans ?_
     ·have hx:=hset.2 _ (List.getElem_mem hi)
      have e5:idx g (row g v)[i]=some (row g ((row g v)[i]).toNat):=by
       have:=BH (g:=g) (v:=((row g v)[i]).toNat) (by omega)
       rwa [show ((((row g v)[i]).toNat:Nat):Int)=(row g v)[i] by omega] at this
      have hs:=h.row (v:=((row g v)[i]).toNat) (by omega)
      simp only[BH hv,bs,dlt hi,cond_true,AK hi,e5,CH _ _ hs,wi (show i<4611686018427387904 by have:=h.row hv;unfold Sh at this;omega),AQ hi]
      cases decide ((v:Int)∈row g ((row g v)[i]).toNat)<;>rfl
     ·simp only[BH hv,bs,Bg,cond_false]
     ·rw[En (row g v) (λx=>decide ((v:Int)∈row g x.toNat)) _ (λi hi=>by rw[AQ hi]),wi' hv (by omega)]
      cases (row g v).all λx=>decide ((v:Int)∈row g x.toNat)<;>rfl
    ·simp only[Bg,cond_false]
  ·simp only[dlt hv,cond_true,BH hv,bs,l1Set_eq _ _ (h.row hv) (show (0:Int)≤(g.length:Int) by omega) (by omega),CH _ _ (h.row hv),wi' hv (by omega)]
   cases DC (row g v) g.length
   ·rfl
   ·cases decide ((v:Int)∈row g v)<;>rfl
 ·have e:(decide ((1:Int)≤(g.length:Int))&&decide ((g.length:Int)≤16))=false:=by
   rw[Bool.eq_false_iff];simp;omega
  simp only[e,Bool.not_false,cond_true]
  unfold gB
  congr 1
  symm
  rw[Bool.eq_false_iff]
  simp
  omega
theorem BC (g:LL)(h:Sh2 g):D.h g=some (gB g):=by
 have hl:g.length≤4294967296:=h.1
 unfold D.h
 by_cases hn:1≤g.length∧g.length≤16
 ·have e:(decide ((g.length:Int)<(1:Int))||decide ((16:Int)<(g.length:Int)))=false:=by simp;omega
  simp only[e,cond_false]
  refine(EP g.length (λv=>DC (row g v) g.length&& !decide ((v:Int)∈row g v)) (.inl ()) (.inr false) (λv hv=> ?_) ?_).trans ?_
  rotate_left
  ·simp only[Bg,cond_false]
  ·show cond (gB1 g) _ _=_
   have e4:gB g=(gB1 g&&gB2 g):=by unfold gB;simp[hn.1,hn.2]
   rw[e4]
   cases hc:gB1 g with
   |false=>rfl
   |true=>
    rw[cond_true,Bool.true_and]
    refine Dx g.length _ false (λv hv=> ?_) ?_ rfl rfl
    ·have hset:SetOf (row g v) g.length:=by
      have:=(De _ _).1 hc v hv
      simp only[Bool.and_eq_true] at this
      exact(C5 _ _).1 this.1
     simp only[dlt hv,cond_true,BH hv,bs]
     refine(EP (row g v).length (λi=>decide ((v:Int)∈row g ((row g v).getD i 0).toNat)) (.inl ()) (.inr false) (λi hi=> ?_) ?_).trans ?_
     ·have hx:=hset.2 _ (List.getElem_mem hi)
      have e5:idx g (row g v)[i]=some (row g ((row g v)[i]).toNat):=by
       have:=BH (g:=g) (v:=((row g v)[i]).toNat) (by omega)
       rwa [show ((((row g v)[i]).toNat:Nat):Int)=(row g v)[i] by omega] at this
      have hs:=h.row (v:=((row g v)[i]).toNat) (by omega)
      simp only[bs,dlt hi,cond_true,AK hi,e5,D8 _ _ hs,wi (show i<4611686018427387904 by have:=h.row hv;unfold Sh at this;omega),AQ hi]
      cases decide ((v:Int)∈row g ((row g v)[i]).toNat)<;>rfl
     ·simp only[Bg,cond_false]
     ·rw[En (row g v) (λx=>decide ((v:Int)∈row g x.toNat)) _ (λi hi=>by rw[AQ hi]),wi' hv (by omega)]
      cases (row g v).all λx=>decide ((v:Int)∈row g x.toNat)<;>rfl
    ·simp only[Bg,cond_false]
  ·simp only[dlt hv,cond_true,BH hv,bs,DD _ _ (h.row hv) (show (0:Int)≤(g.length:Int) by omega) (by omega),D8 _ _ (h.row hv),wi' hv (by omega)]
   cases DC (row g v) g.length
   ·rfl
   ·cases decide ((v:Int)∈row g v)<;>rfl
 ·have e:(decide ((g.length:Int)<(1:Int))||decide ((16:Int)<(g.length:Int)))=true:=by
   simp;omega
  simp only[e,cond_true]
  unfold gB
  congr 1
  symm
  rw[Bool.eq_false_iff]
  simp
  omega
structure OOk (g:LL)(o:LI):Prop where
 len:o.length=g.length
 rng:∀x∈o,0≤x∧x<g.length
 nd:o.Nodup
def oB (g:LL)(o:LI):Bool:=(List.range o.length).all λi=>(decide (0≤o.getD i 0)&&decide (o.getD i 0≤(g.length:Int)-1))&& !decide (o.getD i 0∈o.take i)
theorem mem_take_iff {α:Type}{l:List α}{i:Nat}{x:α}:x∈l.take i↔∃j,∃h:j<l.length,j<i∧l[j]=x:=by
 rw[List.mem_take_iff_getElem]
 constructor
 ·rintro⟨j,h,e⟩;exact⟨j,by omega,by omega,e⟩
 ·rintro⟨j,h,h2,e⟩;exact⟨j,by omega,e⟩
theorem nodup_iff {l:LI}:l.Nodup↔∀i (hi:i<l.length),l[i]∉l.take i:=by
 constructor
 ·intro h i hi hm
  obtain⟨j,hj,hji,e⟩:=mem_take_iff.1 hm
  have:=(List.pairwise_iff_getElem.1 h) j i hj hi hji
  exact this e
 ·intro h
  refine List.pairwise_iff_getElem.2 (λi j hi hj hij e=>h j hj (mem_take_iff.2 ⟨i,hi,hij,e⟩))
theorem oB_iff (g:LL)(o:LI)(hl:o.length=g.length):oB g o=true↔OOk g o:=by
 unfold oB
 rw[De]
 constructor
 ·intro h
  refine⟨hl,λx hx=> ?_,nodup_iff.2 λi hi=> ?_⟩
  ·obtain⟨i,hi,rfl⟩:=List.getElem_of_mem hx
   have:=h i hi
   rw[AQ hi] at this
   simp at this;omega
  ·have:=h i hi
   rw[AQ hi] at this
   simp at this;exact this.2
 ·intro h i hi
  have h1:=h.rng _ (List.getElem_mem hi)
  have h2:=nodup_iff.1 h.nd i hi
  rw[AQ hi]
  simp[h2];omega
def ordB (g:LL)(o:LI):Bool:=decide (o.length=g.length)&&oB g o
theorem ordB_iff (g:LL)(o:LI):ordB g o=true↔OOk g o:=by
 unfold ordB
 by_cases hl:o.length=g.length
 ·simp[hl,oB_iff g o hl]
 ·simp[hl];intro h;exact hl h.len
theorem sorted_inc {y:LI}(hs:Srt y 0 y.length)(hn:y.Nodup):Inc y:=by
 unfold Inc
 rw[List.pairwise_iff_getElem]
 intro i j hi hj hij
 have h1:=hs i j (by omega) (by omega) (by omega)
 have h2:=(List.pairwise_iff_getElem.1 hn) i j hi hj hij
 simp[at',hi,hj] at h1
 have:y[i]≠y[j]:=h2
 omega
theorem Fk (g:LL)(o:LI)(h:Sh2 g)(ho:Sh o):D.Y0 g o=some (gB g&&ordB g o):=by
 unfold D.Y0
 rw[BC g h,bs]
 cases hg:gB g
 ·rfl
 ·have hg':=(gB_iff g).1 hg
  by_cases hl:o.length=g.length
  ·have e:((o.length:Int) !=(g.length:Int))=false:=by simp[hl]
   have h16:=hg'.n16
   obtain⟨y,h1,h2,h3⟩:=sorted_spec o (by omega)
   have hyl:=h2.length_eq
   simp only[Bool.not_true,e,Bool.or_false,cond_false,h1,bs,Bool.true_and]
   rw[DD y _ (by unfold Sh;omega) (by omega) (by omega),bs]
   congr 1
   unfold ordB
   simp only[hl,decide_true,Bool.true_and]
   rw[Bool.eq_iff_iff,C5,oB_iff g o hl]
   constructor
   ·rintro⟨k1,k2⟩
    refine⟨hl,λx hx=>k2 x (h2.mem_iff.2 hx),h2.nodup_iff.1 ?_⟩
    exact List.Pairwise.imp (λh e=>by omega) k1
   ·intro k
    exact⟨sorted_inc h3 (h2.nodup_iff.2 k.nd),λx hx=>k.rng x (h2.mem_iff.1 hx)⟩
  ·have e:((o.length:Int) !=(g.length:Int))=true:=by simp;omega
   simp[e,ordB,hl]
theorem CW (v:Nat):D.b (v:Int)=some (ishl .u32 1 (v:Int)):=by
 unfold D.b
 have:decide ((v:Int)<0)=false:=by simp
 rw[this];rfl
theorem impl_one_eq' {x:Int}(h:0≤x):D.b x=some (ishl .u32 1 x):=by
 have:=CW x.toNat
 rwa [show ((x.toNat:Nat):Int)=x by omega] at this
def mk (xs:LI):Int:=xs.foldl (λs v=>ior .u32 s (ishl .u32 1 v)) 0
theorem maskOf_eq (xs:LI)(h:Sh xs)(h0:∀x∈xs,0≤x):D.N xs=some (mk xs):=by
 unfold Sh at h
 unfold D.N
 refine(loop_listb xs (λs i=>(s,i)) (λs v=>ior .u32 s (ishl .u32 1 v)) (λs=>s) (λ_=>True) 0 trivial (λs i hi _=>⟨?_,trivial⟩) (λs _=> ?_)).trans rfl
 ·simp only[dlt hi,cond_true,AK hi,bs,wi' hi (by omega),impl_one_eq' (h0 _ (List.getElem_mem hi))]
 ·simp only[Bg,cond_false]
theorem EI :∀(xs:LI) (s:Int),VS s→VS (xs.foldl (λs v=>ior .u32 s (ishl .u32 1 v)) s)
 |[],s,h=>h
 |x::xs,s,_=>EI xs _ (VS.ior _ _)
theorem VS.mk (xs:LI):VS (mk xs):=EI xs 0 VS.zero
theorem Ez (u:Nat):∀(xs:LI) (s:Int),VS s→(∀x∈xs,0≤x∧x<32)→has (xs.foldl (λs v=>ior .u32 s (ishl .u32 1 v)) s) u=(has s u||decide ((u:Int)∈xs))
 |[],s,_,_=>by simp
 |x::xs,s,hs,h=>by
  have hx:=h x (by simp)
  rw[List.foldl_cons,Ez u xs _ (VS.ior _ _) (λy hy=>h y (by simp[hy])),CB hs (VS.ishl _ _)]
  obtain⟨k,rfl⟩:∃k:Nat,x=k:=⟨x.toNat,by omega⟩
  rw[BN (by omega)]
  by_cases hu:u=k
  ·subst hu;simp
  ·have:¬(u:Int)=(k:Int):=by omega
   simp[hu,this]
theorem has_mk {xs:LI}(h:∀x∈xs,0≤x∧x<32)(u:Nat):has (mk xs) u=decide ((u:Int)∈xs):=by
 unfold mk;rw[Ez u xs 0 VS.zero h,BM,Bool.false_or]
theorem GOk.mem0 {g:LL}(hg:GOk g){r:LI}(hr:r∈g):r.length≤16∧∀x∈r,0≤x∧x<g.length:=by
 obtain⟨v,hv,rfl⟩:=List.getElem_of_mem hr
 rw[←row_eq hv]
 exact⟨hg.row_len hv,(hg.rows v hv).2⟩
theorem C9 (g:LL)(hg:GOk g):D.j g=some (g.map mk):=by
 have h16:=hg.n16
 unfold D.j
 refine(Dp g (λs i=>(s,i)) mk (by omega) (λs i hi _=> ?_) (λs=> ?_)).trans rfl
 ·obtain⟨h1,h2⟩:=hg.mem0 (List.getElem_mem hi)
  simp only[dlt hi,cond_true,AK hi,bs,wi' hi (by omega),maskOf_eq g[i] (by unfold Sh;omega) (λx hx=>(h2 x hx).1)]
 ·simp only[Bg,cond_false]
theorem narrow_eq (xs:LI)(h:Sh xs):D.k1 xs=some xs:=by
 unfold Sh at h
 unfold D.k1
 rw[makeD_zero (by omega) (by omega),bs]
 refine(Dp xs (λs i=>(s,i)) (λx=>x) h (λs i hi _=> ?_) (λs=> ?_)).trans (by simp)
 ·simp only[dlt hi,cond_true,AK hi,bs,wi' hi (by omega)]
 ·simp only[Bg,cond_false]
theorem wide_eq (xs:LI)(h:Sh xs):D.g0 xs=some xs:=by
 unfold Sh at h
 unfold D.g0
 rw[makeD_zero (by omega) (by omega),bs]
 refine(Dp xs (λs i=>(s,i)) (λx=>x) h (λs i hi _=> ?_) (λs=> ?_)).trans (by simp)
 ·simp only[dlt hi,cond_true,AK hi,bs,wi' hi (by omega)]
 ·simp only[Bg,cond_false]
theorem least_eq {s:Int}(h:VS s)(h0:s≠0):∃k:Nat,k<32∧D.u s=some (k:Int)∧has s k=true∧(∀v,v<k→has s v=false)∧
  (∀v,has (iand .u32 s (IntKind.u32.wrap (s-1))) v=(has s v&& !decide (v=k))):=by
 obtain⟨k,h1,h2,h3,h4,h5⟩:=least_spec h h0
 refine⟨k,h1,?_,h2,h3,h5⟩
 unfold D.u D.I0
 have e:(s==0)=false:=by simpa using h0
 simp only[e,cond_false,h4,tz_table k h1,bs]
 rw[w64 (by omega) (by omega)]
theorem DO (s:Int)(h:VS s):D.g s=some (AO s):=by
 unfold D.g
 have key:∀(n:Nat) (x:Int) (l:LI),VS x→(AO x).length=n→l.length+n≤32→
   An (σ:=Int×LI) (ρ:=(LI)) (fun(s_52:Int×LI)=>match s_52 with|(x_55,l_56)=>cond (x_55 !=0) ((D.u x_55).bind λy_88=>(A2 l_56 ([y_88]:LI)).bind λl_99=>some (.inl ((iand .u32 x_55 (IntKind.u32.wrap (x_55-1))),l_99))) (some (.inr l_56))) (x,l)=some (l++AO x):=by
  intro n
  induction n with
  |zero=>
   intro x l hx hn _
   have e:AO x=[]:=List.eq_nil_of_length_eq_zero hn
   have e0:x=0:=hx.eq_zero.2 λv hv=>by
    cases hc:has x v
    ·rfl
    ·have:=mem_elems.2 ⟨v,hv,hc,rfl⟩;rw[e] at this;simp at this
   rw[e]
   refine Bf ?_
   have:(x !=0)=false:=by simp[e0]
   simp only[this,cond_false,List.append_nil]
  |succ n ih=>
   intro x l hx hn hl
   have h0:x≠0:=by rintro rfl;rw[elems_zero] at hn;simp at hn
   obtain⟨k,h1,h2,h3,h4,h5⟩:=least_eq hx h0
   have e:=EZ h1 h3 h4 h5
   have en:(AO (iand .u32 x (IntKind.u32.wrap (x-1)))).length=n:=by rw[e] at hn;simpa using hn
   have hstep:=ih (iand .u32 x (IntKind.u32.wrap (x-1))) (l++[(k:Int)]) (VS.iand _ _) en (by simp;omega)
   have e1:(x !=0)=true:=by simpa using h0
   rw[BA (s':=(iand .u32 x (IntKind.u32.wrap (x-1)),l++[(k:Int)]))]
   ·rw[hstep,e];simp
   ·simp only[e1,cond_true,h2,bs,Bu (xs:=l) (ys:=[(k:Int)]) (by simp;omega)]
 have:=key (AO s).length s [] h rfl (by simpa using Cj s)
 rw[this];simp
theorem Ew (s:Int):Sh (AO s):=by have:=Cj s;unfold Sh;omega
theorem numbers_eq (s:Int)(h:VS s):D.T s=some (AO s):=by
 unfold D.T
 rw[DO s h,bs,wide_eq _ (Ew s)];rfl
theorem results_eq (xs:LI)(h:Sh xs)(hv:∀s∈xs,VS s):D.K xs=some (xs.map AO):=by
 unfold Sh at h
 unfold D.K
 refine(Dp xs (λs i=>(s,i)) AO h (λs i hi _=> ?_) (λs=> ?_)).trans rfl
 ·simp only[dlt hi,cond_true,AK hi,bs,wi' hi (by omega),numbers_eq _ (hv _ (List.getElem_mem hi))]
 ·simp only[Bg,cond_false]
theorem l1Copy_eq (xs:LI)(h:Sh xs):D.a0 xs=some xs:=by
 unfold Sh at h
 unfold D.a0
 rw[Bu (by simpa using h)];rfl
def into (xs:LI)(n:Int):LI:=if n∈xs then xs else xs.takeWhile (λx=>decide (x<n))++n::xs.dropWhile (λx=>decide (x<n))
theorem mem_into {xs:LI}{n x:Int}:x∈into xs n↔x=n∨x∈xs:=by
 unfold into
 split
 ·constructor
  ·intro h;exact .inr h
  ·rintro(rfl|h)
   ·assumption
   ·exact h
 ·have e:x∈xs↔x∈xs.takeWhile (λx=>decide (x<n))++xs.dropWhile (λx=>decide (x<n)):=by rw[List.takeWhile_append_dropWhile]
  rw[e];simp only[List.mem_append,List.mem_cons]
  constructor
  ·rintro(h|h|h)<;>simp[h]
  ·rintro(h|h|h)<;>simp[h]
theorem EC {xs:LI}{n:Int}(h:Inc xs):∀y∈xs.dropWhile (λx=>decide (x<n)),n≤y:=by
 induction xs with
 |nil=>simp
 |cons x xs ih=>
  have h':=List.pairwise_cons.1 h
  intro y hy
  rw[List.dropWhile_cons] at hy
  split at hy
  ·exact ih h'.2 y hy
  ·rename_i hc
   simp at hc
   rcases List.mem_cons.1 hy with rfl|hy
   ·exact hc
   ·have:=h'.1 y hy;omega
theorem inc_takeWhile {xs:LI}{n:Int}:∀y∈xs.takeWhile (λx=>decide (x<n)),y<n:=by
 intro y hy
 induction xs with
 |nil=>simp at hy
 |cons x xs ih=>
  rw[List.takeWhile_cons] at hy
  split at hy
  ·rename_i hc
   rcases List.mem_cons.1 hy with rfl|hy
   ·simpa using hc
   ·exact ih hy
  ·simp at hy
theorem Inc.into {xs:LI}(h:Inc xs)(n:Int):Inc (into xs n):=by
 unfold Sx.into
 split
 ·exact h
 ·rename_i hn
  unfold Inc
  rw[List.pairwise_append]
  refine⟨List.Pairwise.sublist (List.takeWhile_sublist _) h,List.pairwise_cons.2 ⟨λy hy=> ?_,List.Pairwise.sublist (List.dropWhile_sublist _) h⟩,λa ha b hb=> ?_⟩
  ·have h1:=EC h y hy
   have h2:y≠n:=λe=>hn (e▸(List.dropWhile_sublist _).mem hy)
   omega
  ·have h1:=inc_takeWhile a ha
   rcases List.mem_cons.1 hb with rfl|hb
   ·exact h1
   ·have:=EC h b hb;omega
theorem CT {α:Type}(p:α→Bool):∀(xs:List α),xs.takeWhile p=xs.take (xs.takeWhile p).length∧xs.dropWhile p=xs.drop (xs.takeWhile p).length
 |[]=>by simp
 |x::xs=>by
  rw[List.takeWhile_cons,List.dropWhile_cons]
  cases p x
  ·simp
  ·have:=CT p xs
   simp only[if_true,List.length_cons,List.take_succ_cons,List.drop_succ_cons,←this.1,←this.2,and_self]
theorem CZ {α:Type}(p:α→Bool):∀(xs:List α) (i:Nat) (h:i<(xs.takeWhile p).length) (h':i<xs.length),p xs[i]=true
 |x::xs,i,h,h'=>by
  rw[List.takeWhile_cons] at h
  cases hp:p x
  ·rw[hp] at h;simp at h
  ·rw[hp] at h
   cases i with
   |zero=>simpa using hp
   |succ i=>simp only[if_true,List.length_cons] at h;simpa using CZ p xs i (by omega) (by simpa using h')
theorem Dm {α:Type}(p:α→Bool):∀(xs:List α) (h:(xs.takeWhile p).length<xs.length),p (xs[(xs.takeWhile p).length])=false
 |x::xs,h=>by
  cases hp:p x
  ·simp[List.takeWhile_cons,hp]
  ·have h2:(xs.takeWhile p).length<xs.length:=by simpa [List.takeWhile_cons,hp] using h
   simpa [List.takeWhile_cons,hp] using Dm p xs h2
theorem Fg {α:Type}(p:α→Bool)(xs:List α):(xs.takeWhile p).length≤xs.length:=(List.takeWhile_sublist _).length_le
theorem l1Into_eq (xs:LI)(n:Int)(h:Inc xs)(hl:xs.length≤4294967295):D.O xs n=some (into xs n):=by
 unfold D.O
 generalize hk:(xs.takeWhile (λx=>decide (x<n))).length=k
 have hkl:k≤xs.length:=by rw[←hk];exact Fg _ _
 have htk:xs.takeWhile (λx=>decide (x<n))=xs.take k:=by rw[←hk];exact(CT _ xs).1
 have hdk:xs.dropWhile (λx=>decide (x<n))=xs.drop k:=by rw[←hk];exact(CT _ xs).2
 refine(BT (λi=>((i:Nat):Int)) k (k:Int) rfl (λi hi=> ?_) ?_).trans ?_
 ·have hi':i<xs.length:=by omega
  have hp:decide (xs[i]<n)=true:=CZ (λx=>decide (x<n)) xs i (by omega) hi'
  simp only[dlt hi',cond_true,AK hi',bs,hp,wq i]
 ·by_cases hlt:k<xs.length
  ·have hp:decide (xs[k]<n)=false:=by
    have:=Dm (λx=>decide (x<n)) xs (by omega)
    simp only[hk] at this;exact this
   simp only[dlt hlt,cond_true,AK hlt,bs,hp,cond_false]
  ·obtain rfl:k=xs.length:=by omega
   simp only[Bg,cond_false,bs]
 ·have hS1:Sh (xs.take k):=by unfold Sh;rw[List.length_take];omega
  have hrest:((BO xs 0 (k:Int)).bind λl_135=>(D.a0 l_135).bind λy_139=>(A2 y_139 ([n]:LI)).bind λl_154=>(BO xs (k:Int) (xs.length:Int)).bind λl_160=>(A2 l_154 l_160).bind λl_164=>some l_164)=some (xs.take k++n::xs.drop k):=by
   simp only[Eo hkl,E2 hkl,bs,l1Copy_eq _ hS1]
   rw[Bu (by simp;omega),bs,Bu (by simp;omega),bs]
   simp
  by_cases hlt:k<xs.length
  ·simp only[dlt hlt,cond_true,AK hlt,bs]
   by_cases he:xs[k]=n
   ·have hm:n∈xs:=by rw[←he];exact List.getElem_mem _
    have:(xs[k]==n)=true:=by simp[he]
    simp only[this,cond_true]
    unfold into;rw[if_pos hm]
   ·have:(xs[k]==n)=false:=by simpa using he
    simp only[this,cond_false,hrest]
    unfold into
    rw[htk,hdk,if_neg]
    intro hm
    obtain⟨j,hj,e⟩:=List.getElem_of_mem hm
    have hst:decide (xs[k]<n)=false:=by
     have:=Dm (λx=>decide (x<n)) xs (by omega)
     simp only[hk] at this;exact this
    simp at hst
    rcases Nat.lt_trichotomy j k with h1|h1|h1
    ·have:=CZ (λx=>decide (x<n)) xs j (by omega) hj
     simp at this;omega
    ·subst h1;exact he e
    ·have:=(List.pairwise_iff_getElem.1 h) k j hlt hj h1
     omega
  ·obtain rfl:k=xs.length:=by omega
   simp only[Bg,cond_false,bs,hrest]
   unfold into
   rw[htk,hdk,if_neg]
   intro hm
   obtain⟨j,hj,e⟩:=List.getElem_of_mem hm
   have:=CZ (λx=>decide (x<n)) xs j (by omega) hj
   simp at this;omega
end Go.Sx



namespace Go.Sx
structure DK (b:LI)(i:Int):Prop where
 byte:∀x∈b,0≤x∧x≤255
 len:b.length≤4096
 i0:0≤i
 i1:i≤b.length
theorem iand_u64_le (a:Int)(n:Nat)(hn:n<18446744073709551616):0≤iand .u64 a (n:Int)∧iand .u64 a (n:Int)≤n:=by
 have e:(BitVec.ofInt 64 (n:Int)).toNat=n:=by rw[BitVec.toNat_ofInt];omega
 have h:(BitVec.ofInt 64 a&&&BitVec.ofInt 64 (n:Int)).toNat≤n:=by
  rw[BitVec.toNat_and,e];exact Nat.and_le_right
 have w:∀m:Nat,m<18446744073709551616→IntKind.u64.wrap (m:Int)=m:=λm hm=>by
  simp[IntKind.wrap,IntKind.signed,IntKind.bits];omega
 have e2:iand .u64 a (n:Int)=(((BitVec.ofInt 64 a&&&BitVec.ofInt 64 (n:Int)).toNat:Nat):Int):=by
  show IntKind.u64.wrap (((BitVec.ofInt 64 a&&&BitVec.ofInt 64 (n:Int)).toNat:Nat):Int)=_
  exact w _ (by omega)
 rw[e2];omega
theorem tmod_rng {x n:Int}(hx:0≤x)(hn:0<n):0≤Int.tmod x n∧Int.tmod x n<n:=
 ⟨Int.tmod_nonneg _ hx,Int.tmod_lt_of_pos _ hn⟩
theorem below_ok {b:LI}{i:Int}(h:DK b i)(z n:Int)(hn:0<n):∃r i' z',D.q b i z n=some (r,b,i',z')∧0≤r∧r<n∧DK b i':=by
 obtain⟨h1,h2,h3,h4⟩:=h
 unfold D.q
 have hn0:(n==0)=false:=by simp;omega
 have hc:∀y:Int,0≤iand .u64 y 16777215∧iand .u64 y 16777215≤16777215:=λy=>iand_u64_le y 16777215 (by omega)
 by_cases hi:i<b.length
 ·have hb:=h1 _ (List.getElem_mem (show i.toNat<b.length by omega))
  simp only[hi,decide_true,cond_true,idx_int h3 hi,bs,hn0,cond_false]
  have hy:=hc (Bx .u64 (IntKind.u64.wrap ((IntKind.u64.wrap (z*6364136223846793005))+1442695040888963407)) 33)
  generalize iand .u64 (Bx .u64 (IntKind.u64.wrap ((IntKind.u64.wrap (z*6364136223846793005))+1442695040888963407)) 33) 16777215=y at hy ⊢
  rw[w64 (x:=y) (by omega) (by omega),w64 (x:=b[i.toNat]) (by omega) (by omega),w64 (x:=y+b[i.toNat]) (by omega) (by omega),w64 (x:=i+1) (by omega) (by omega)]
  have hr:=tmod_rng (x:=y+b[i.toNat]) (n:=n) (by omega) hn
  exact⟨_,_,_,rfl,hr.1,hr.2,h1,h2,by omega,by omega⟩
 ·simp only[hi,decide_false,cond_false,hn0]
  have hy:=hc (Bx .u64 (IntKind.u64.wrap ((IntKind.u64.wrap (z*6364136223846793005))+1442695040888963407)) 33)
  generalize iand .u64 (Bx .u64 (IntKind.u64.wrap ((IntKind.u64.wrap (z*6364136223846793005))+1442695040888963407)) 33) 16777215=y at hy ⊢
  rw[w64 (x:=y) (by omega) (by omega)]
  have hr:=tmod_rng (x:=y) (n:=n) (by omega) hn
  exact⟨_,_,_,rfl,hr.1,hr.2,h1,h2,h3,h4⟩
theorem Ep {b:LI}{i:Int}(h:DK b i)(z n:Int)(hn:0<n):∃y,D.q b i z n=some y∧(0≤y.1∧y.1<n∧y.2.1=b∧DK b y.2.2.1):=by
 obtain⟨r,i',z',e,h1,h2,h3⟩:=below_ok h z n hn
 exact⟨_,e,h1,h2,rfl,h3⟩
theorem roll_ok (code:LI)(seed:Int)(h:∀x∈code,0≤x∧x≤255)(hl:code.length≤4096):∃z,D.p0 code seed=some (code,0,z)∧DK code 0:=by
 unfold D.p0
 refine⟨_,(loop_listb code (λs i=>(i,s)) (λs e=>IntKind.u64.wrap ((IntKind.u64.wrap ((IntKind.u64.wrap (s*1099511628211))+(IntKind.u64.wrap e)))+3)) (λs=>s) (λ_=>True) _ trivial (λs i hi _=>⟨?_,trivial⟩) (λs _=> ?_)).trans rfl,h,hl,by omega,by omega⟩
 ·simp only[dlt hi,cond_true,AK hi,bs,wq i]
 ·simp only[Bg,cond_false]
theorem l1Empty_eq (n:Nat)(hn:n≤16):D.s0 (n:Int)=some (List.replicate n []):=by
 unfold D.s0
 refine(BT (λi=>((i:Int),List.replicate i [])) n (List.replicate n []) (by simp) (λi hi=> ?_) ?_).trans rfl
 ·simp only[dlt hi,cond_true,wq i]
  rw[Bu (by simp;omega),bs,←List.replicate_succ']
 ·simp only[Bg,cond_false]
theorem row_set {g:LL}{u v:Nat}{r:LI}(hu:u<g.length):row (g.set u r) v=if v=u then r else row g v:=by
 unfold row
 by_cases h:v=u
 ·subst h;simp[hu]
 ·rw[if_neg h,List.getD_eq_getElem?_getD,List.getElem?_set_ne (λe=>h e.symm),←List.getD_eq_getElem?_getD]
theorem l1Link_ok {g:LL}(hg:GOk g){u v:Nat}(hu:u<g.length)(hv:v<g.length)(huv:u≠v):
  ∃g',D.Y g (u:Int) (v:Int)=some g'∧GOk g'∧g'.length=g.length∧∀a b,adj g' a b↔adj g a b∨(a=u∧b=v)∨(a=v∧b=u):=by
 have h16:=hg.n16
 have hru:=hg.rows u hu;have hrv:=hg.rows v hv
 have hlu:=hg.row_len hu;have hlv:=hg.row_len hv
 refine⟨(g.set u (into (row g u) v)).set v (into (row g v) u),?_,?_⟩
 ·unfold D.Y
  have e1:row (g.set u (into (row g u) v)) v=row g v:=by rw[row_set hu,if_neg (Ne.symm huv)]
  simp only[BH hu,bs,l1Into_eq _ _ hru.1 (show (row g u).length≤4294967295 by omega),Int.toNat_natCast]
  rw[BH (show v<(g.set u (into (row g u) v)).length by simpa using hv),e1]
  simp only[bs,l1Into_eq _ _ hrv.1 (show (row g v).length≤4294967295 by omega)]
 ·have hrow:∀w,row ((g.set u (into (row g u) v)).set v (into (row g v) u)) w=if w=v then into (row g v) u else if w=u then into (row g u) v else row g w:=by
   intro w
   rw[row_set (by simpa using hv),row_set hu]
  have hadj:∀a b,adj ((g.set u (into (row g u) v)).set v (into (row g v) u)) a b↔adj g a b∨(a=u∧b=v)∨(a=v∧b=u):=by
   intro a b
   unfold adj
   rw[hrow]
   by_cases ha:a=v
   ·subst ha
    rw[if_pos rfl,mem_into]
    constructor
    ·rintro(h|h)
     ·exact .inr (.inr ⟨rfl,by omega⟩)
     ·exact .inl h
    ·rintro(h|⟨h,_⟩|⟨_,h⟩)
     ·exact .inr h
     ·exact absurd h.symm huv
     ·exact .inl (by omega)
   ·rw[if_neg ha]
    by_cases ha':a=u
    ·subst ha'
     rw[if_pos rfl,mem_into]
     constructor
     ·rintro(h|h)
      ·exact .inr (.inl ⟨rfl,by omega⟩)
      ·exact .inl h
     ·rintro(h|⟨_,h⟩|⟨h,_⟩)
      ·exact .inr h
      ·exact .inl (by omega)
      ·exact absurd h ha
    ·rw[if_neg ha']
     constructor
     ·exact .inl
     ·rintro(h|⟨h,_⟩|⟨h,_⟩)
      ·exact h
      ·exact absurd h ha'
      ·exact absurd h ha
  refine⟨⟨by simpa using hg.n1,by simpa using h16,λw hw=> ?_,λw hw=> ?_,λa b ha hab=> ?_⟩,by simp,hadj⟩
  ·simp only[List.length_set] at hw ⊢
   rw[hrow]
   split
   ·refine⟨hrv.1.into _,λx hx=> ?_⟩
    rcases mem_into.1 hx with rfl|hx
    ·omega
    ·exact hrv.2 x hx
   ·split
    ·refine⟨hru.1.into _,λx hx=> ?_⟩
     rcases mem_into.1 hx with rfl|hx
     ·omega
     ·exact hru.2 x hx
    ·exact hg.rows w hw
  ·simp only[List.length_set] at hw
   rw[hadj]
   rintro(h|⟨h1,h2⟩|⟨h1,h2⟩)
   ·exact hg.irr w hw h
   ·omega
   ·omega
  ·simp only[List.length_set] at ha
   rw[hadj] at hab ⊢
   rcases hab with h|h|h
   ·exact .inl (hg.sym a b ha h)
   ·exact .inr (.inr ⟨h.2,h.1⟩)
   ·exact .inr (.inl ⟨h.2,h.1⟩)
theorem GOk.empty {n:Nat}(h1:1≤n)(h16:n≤16):GOk (List.replicate n []):=by
 have hr:∀v,row (List.replicate n []) v=[]:=λv=>by
  unfold row
  rw[List.getD_eq_getElem?_getD,List.getElem?_replicate];split<;>rfl
 refine⟨by simpa using h1,by simpa using h16,λv _=> ?_,λv _=> ?_,λu v _ h=> ?_⟩
 ·rw[hr];exact⟨by simp[Inc],by simp⟩
 ·unfold adj;rw[hr];simp
 ·unfold adj at h;rw[hr] at h;simp at h
def EdgeIn (n:Nat)(e:LI):Prop:=∃a b:Nat,e=[(a:Int),(b:Int)]∧a<b∧b<n
theorem setB_edge {n:Nat}{a b:Nat}(h:a<b)(hb:b<n):DC [(a:Int),(b:Int)] n=true:=by
 rw[C5]
 refine⟨by simp[Inc];omega,λx hx=> ?_⟩
 simp at hx
 rcases hx with rfl|rfl<;>omega
theorem GraphOf_ok (n:Nat)(edges:LL)(h1:1≤n)(h16:n≤16)(he:edges.length≤120)(hE:∀e∈edges,EdgeIn n e):
  ∃g,D.j0 (n:Int) edges=some (g,true)∧GOk g∧g.length=n∧∀a b:Nat,adj g a b↔([(a:Int),(b:Int)]∈edges∧a<b)∨([(b:Int),(a:Int)]∈edges∧b<a):=by
 unfold D.j0
 rw[Ee]
 have e1:(decide ((1:Int)≤(n:Int))&&decide ((n:Int)≤16))=true:=by simp;omega
 have e2:decide ((120:Int)<(edges.length:Int))=false:=by simp;omega
 simp only[bs,e1,e2,Bool.not_true,Bool.or_false,cond_false,l1Empty_eq n h16]
 have key:∀(k i:Nat) (g:LL),i+k=edges.length→GOk g→g.length=n→(∀a b:Nat,adj g a b↔([(a:Int),(b:Int)]∈edges.take i∧a<b)∨([(b:Int),(a:Int)]∈edges.take i∧b<a))→
   ∃g',An (σ:=Int×LL) (ρ:=(LL) ⊕ ((LL)×Bool)) (fun(s_217:Int×LL)=>match s_217 with|(x_220,l_221)=>cond (decide (x_220<(edges.length:Int))) ((idx edges x_220).bind λe_319=>(cond ((e_319.length:Int) !=2) (some true) ((idx edges x_220).bind λe_356=>(D.x e_356 (n:Int)).bind λy_362=>some (!y_362))).bind λb_354=>cond b_354 (some (.inr (.inr (([]:LL),false)))) ((idx edges x_220).bind λe_375=>(idx e_375 0).bind λe_381=>(idx edges x_220).bind λe_387=>(idx e_387 1).bind λe_393=>(D.Y l_221 e_381 e_393).bind λy_401=>some (.inl ((IntKind.i64.wrap (x_220+1)),y_401)))) (some (.inr (.inl l_221)))) ((i:Int),g)=some (.inl g')∧GOk g'∧g'.length=n∧(∀a b:Nat,adj g' a b↔([(a:Int),(b:Int)]∈edges∧a<b)∨([(b:Int),(a:Int)]∈edges∧b<a)):=by
  intro k
  induction k with
  |zero=>
   intro i g hi hg hl ha
   obtain rfl:i=edges.length:=by omega
   rw[List.take_length] at ha
   exact⟨g,Bf (by simp only[Bg,cond_false]),hg,hl,ha⟩
  |succ k ih=>
   intro i g hi hg hl ha
   have hil:i<edges.length:=by omega
   obtain⟨a,b,eab,hab,hbn⟩:=hE _ (List.getElem_mem hil)
   obtain⟨g',k1,k2,k3,k4⟩:=l1Link_ok hg (u:=a) (v:=b) (by omega) (by omega) (by omega)
   obtain⟨g'',m1,m2⟩:=ih (i+1) g' (by omega) k2 (by omega) (λc d=>by
    rw[k4,ha,List.take_succ_eq_append_getElem hil]
    simp only[List.mem_append,List.mem_singleton,eab,List.cons.injEq,and_true]
    constructor
    ·rintro((⟨h,h'⟩|⟨h,h'⟩)|⟨rfl,rfl⟩|⟨rfl,rfl⟩)
     ·exact .inl ⟨.inl h,h'⟩
     ·exact .inr ⟨.inl h,h'⟩
     ·exact .inl ⟨.inr ⟨rfl,rfl⟩,hab⟩
     ·exact .inr ⟨.inr ⟨rfl,rfl⟩,hab⟩
    ·rintro(⟨h|⟨h,h2⟩,h'⟩|⟨h|⟨h,h2⟩,h'⟩)
     ·exact .inl (.inl ⟨h,h'⟩)
     ·exact .inr (.inl ⟨by omega,by omega⟩)
     ·exact .inl (.inr ⟨h,h'⟩)
     ·exact .inr (.inr ⟨by omega,by omega⟩))
   refine⟨g'',?_,m2⟩
   rw[BA (s':=(((i+1:Nat):Int),g'))]
   ·exact m1
   ·have h0:idx [(a:Int),(b:Int)] 0=some (a:Int):=rfl
    have h1':idx [(a:Int),(b:Int)] 1=some (b:Int):=rfl
    have hlen:((([(a:Int),(b:Int)]).length:Int) !=2)=false:=rfl
    simp only[dlt hil,cond_true,AK hil,eab,bs,hlen,cond_false,l1Set_eq [(a:Int),(b:Int)] n (by simp[Sh]) (by omega) (by omega),setB_edge hab hbn,Bool.not_true,h0,h1',k1,wq i]
 obtain⟨g',m1,m2,m3,m4⟩:=key edges.length 0 (List.replicate n []) (by omega) (GOk.empty h1 h16) (by simp) (λa b=>by
  unfold adj row
  rw[List.getD_eq_getElem?_getD,List.getElem?_replicate]
  split<;>simp)
 refine⟨g',?_,m2,m3,m4⟩
 rw[show ((0:Nat):Int)=0 from rfl] at m1
 rw[m1];rfl
theorem w9Graph_ok {b:LI}{i:Int}(h:DK b i)(z:Int)(most:Nat)(h1:1≤most)(h8:most≤8):
  ∃y,D.u0 b i z (most:Int)=some y∧(GOk y.1∧y.1.length≤most∧y.2.1=b∧DK b y.2.2.1):=by
 unfold D.u0
 refine BG _ (Ep h z most (by omega)) ?_
 rintro⟨r,b1,i1,z1⟩ ⟨r0,r1,rfl,k1⟩
 dsimp only at r0 r1 k1 ⊢
 refine BG _ (Ep k1 z1 3 (by omega)) ?_
 rintro⟨q,b2,i2,z2⟩ ⟨q0,q1,rfl,k2⟩
 dsimp only at q0 q1 k2 ⊢
 obtain⟨n,en,en'⟩:∃n:Nat,IntKind.i64.wrap (1+r)=(n:Int)∧(n:Int)=1+r:=⟨(1+r).toNat,by rw[w64 (by omega) (by omega)];omega,by omega⟩
 rw[en]
 refine AV (λs=>∃v:Nat,s.2.1=(v:Int)∧1≤v∧v≤n∧s.2.2.1=b2∧DK b2 s.2.2.2.1∧s.1.length≤8*v+v∧∀e∈s.1,EdgeIn n e) (λs=>n-s.2.1.toNat)
  (λr=>r.2.1=b2∧DK b2 r.2.2.1∧r.1.length≤120∧∀e∈r.1,EdgeIn n e) ?_ ?_ ?_
 ·rintro⟨l,_,b2,i,z⟩ ⟨v,rfl,g1,g2,rfl,hk,hl,hE⟩
  dsimp only at hk hl hE ⊢
  by_cases hv:v<n
  ·simp only[dlt hv,cond_true]
   refine AV (λs=>∃u:Nat,s.2.1=(u:Int)∧u≤v∧s.2.2.1=b2∧DK b2 s.2.2.2.1∧s.1.length≤8*v+v+u∧∀e∈s.1,EdgeIn n e) (λs=>v-s.2.1.toNat)
    (λr=>r.2.1=b2∧DK b2 r.2.2.1∧r.1.length≤8*v+v+v∧∀e∈r.1,EdgeIn n e) ?_ ⟨0,rfl,by omega,rfl,hk,by dsimp only;omega,hE⟩ ?_
   ·rintro⟨l,_,b2,i,z⟩ ⟨u,rfl,g3,rfl,hk,hl,hE⟩
    dsimp only at hk hl hE ⊢
    by_cases hu:u<v
    ·simp only[dlt hu,cond_true]
     refine BG _ (Ep hk z 4 (by omega)) ?_
     rintro⟨t,b2,i3,z3⟩ ⟨t0,t1,rfl,hk'⟩
     dsimp only at t0 t1 hk' ⊢
     by_cases hc:t<IntKind.i64.wrap (1+q)
     ·simp only[hc,decide_true,cond_true,wq u]
      rw[Bu (by simp;omega),bs]
      refine⟨_,rfl,⟨u+1,rfl,by omega,rfl,hk',by simp;omega,λe he=> ?_⟩,by dsimp only;omega⟩
      rcases List.mem_append.1 he with he|he
      ·exact hE e he
      ·simp at he;subst he;exact⟨u,v,rfl,hu,hv⟩
     ·simp only[hc,decide_false,cond_false,wq u]
      exact⟨_,rfl,⟨u+1,rfl,by omega,rfl,hk',by dsimp only;omega,hE⟩,by dsimp only;omega⟩
    ·obtain rfl:u=v:=by omega
     simp only[Bg,cond_false]
     exact⟨_,rfl,rfl,hk,by dsimp only;omega,hE⟩
   ·rintro⟨l,b2,i3,z3⟩ ⟨rfl,hk',hl',hE'⟩
    dsimp only at hk' hl' hE' ⊢
    simp only[wq v]
    exact⟨_,rfl,⟨v+1,rfl,by omega,by omega,rfl,hk',by dsimp only;omega,hE'⟩,by dsimp only;omega⟩
  ·obtain rfl:v=n:=by omega
   simp only[Bg,cond_false]
   exact⟨_,rfl,rfl,hk,by dsimp only;omega,hE⟩
 ·exact⟨1,rfl,by omega,by omega,rfl,k2,by simp,by simp⟩
 ·rintro⟨l,b2,i3,z3⟩ ⟨rfl,hk,hl,hE⟩
  dsimp only at hk hl hE ⊢
  obtain⟨g,m1,m2,m3,_⟩:=GraphOf_ok n l (by omega) (by omega) hl hE
  rw[m1,bs]
  exact⟨_,rfl,m2,by dsimp only;omega,rfl,hk⟩
end Go.Sx



namespace Go.Sx
theorem ext_getD {a b:LI}(hl:a.length=b.length)(h:∀j,j<a.length→a.getD j 0=b.getD j 0):a=b:=by
 apply List.ext_getElem hl
 intro j h1 h2
 have:=h j h1
 rwa [AQ h1,AQ h2] at this
theorem getD_set (l:LI)(i j:Nat)(x:Int)(hi:i<l.length):(l.set i x).getD j 0=if j=i then x else l.getD j 0:=by
 simp only[List.getD_eq_getElem?_getD,List.getElem?_set]
 by_cases h:j=i
 ·subst h;simp[hi]
 ·rw[if_neg (λe=>h e.symm),if_neg h]
def nb (F:LI)(u w:Nat):Bool:=has (F.getD u 0) w
structure FOk (F:LI)(n:Nat):Prop where
 len:F.length=n
 vs:∀u,u<n→VS (F.getD u 0)
 lt:∀u w,u<n→nb F u w=true→w<n
 irr:∀u,u<n→nb F u u=false
 sym:∀u w,u<n→nb F u w=true→nb F w u=true
theorem FOk.ext {F F':LI}{n:Nat}(h:F.length=n)(h':F'.length=n)(v:∀u,u<n→VS (F.getD u 0))(v':∀u,u<n→VS (F'.getD u 0))(e:∀u w,u<n→nb F u w=nb F' u w):F=F':=by
 refine ext_getD (by omega) (λj hj=> ?_)
 exact(v j (by omega)).ext (v' j (by omega)) (λw _=>e j w (by omega))
theorem CU (g:LL)(u:Nat):(g.map mk).getD u 0=mk (row g u):=by
 unfold row
 simp only[List.getD_eq_getElem?_getD,List.getElem?_map]
 cases g[u]? with
 |none=>simp[mk]
 |some r=>rfl
theorem CF {g:LL}(hg:GOk g){u w:Nat}(hu:u<g.length):nb (g.map mk) u w=true↔adj g u w:=by
 have h16:=hg.n16
 unfold nb
 rw[CU,has_mk (λx hx=>by have:=(hg.rows u hu).2 x hx;omega)]
 simp[adj]
theorem FOk.of {g:LL}(hg:GOk g):FOk (g.map Sx.mk) g.length:=by
 refine⟨by simp,λu _=>by rw[CU];exact VS.mk _,λu w hu h=>hg.lt hu ((CF hg hu).1 h),λu hu=> ?_,λu w hu h=> ?_⟩
 ·cases h:nb (g.map Sx.mk) u u
  ·rfl
  ·exact absurd ((CF hg hu).1 h) (hg.irr u hu)
 ·have ha:=(CF hg hu).1 h
  exact(CF hg (hg.lt hu ha)).2 (hg.sym u w hu ha)
def grow (F:LI):LL:=F.map AO
theorem row_grow (F:LI)(u:Nat):row (grow F) u=AO (F.getD u 0):=by
 unfold row grow
 simp only[List.getD_eq_getElem?_getD,List.getElem?_map]
 cases F[u]? with
 |none=>simp[elems_zero]
 |some r=>rfl
theorem C6 {F:LI}{n u w:Nat}(h:FOk F n)(hu:u<n):adj (grow F) u w↔nb F u w=true:=by
 unfold adj nb
 rw[row_grow,BW (h.vs u hu)]
theorem GOk.grow {F:LI}{n:Nat}(h:FOk F n)(h1:1≤n)(h16:n≤16):GOk (grow F):=by
 have hl:(Sx.grow F).length=n:=by unfold Sx.grow;rw[List.length_map,h.len]
 refine⟨by omega,by omega,λv hv=> ?_,λv hv ha=> ?_,λu v hu ha=> ?_⟩
 ·rw[row_grow,hl]
  refine⟨CK _,λx hx=> ?_⟩
  obtain⟨w,_,h2,rfl⟩:=mem_elems.1 hx
  have:=h.lt v w (by omega) h2
  omega
 ·rw[C6 h (by omega)] at ha
  rw[h.irr v (by omega)] at ha;cases ha
 ·rw[C6 h (by omega)] at ha
  have:=h.lt u v (by omega) ha
  rw[C6 h (by omega)]
  exact h.sym u v (by omega) ha
theorem mk_elems {s:Int}(h:VS s):mk (AO s)=s:=by
 refine(VS.mk _).ext h (λv hv=> ?_)
 rw[has_mk (λx hx=>by obtain⟨w,h1,_,rfl⟩:=mem_elems.1 hx;omega),Bool.eq_iff_iff,decide_eq_true_eq,BW h]
theorem grow_mk {F:LI}{n:Nat}(h:FOk F n):(grow F).map mk=F:=by
 refine ext_getD (by simp[grow]) (λj hj=> ?_)
 rw[CU,row_grow,mk_elems (h.vs j (by simp[grow,h.len] at hj;omega))]
def PEO (F:LI)(o:LI):Prop:=∀(j:Nat) (v u w:Nat),o[j]? =some (v:Int)→nb F v u=true→nb F v w=true→(u:Int)∉o.take (j+1)→(w:Int)∉o.take (j+1)→u≠w→nb F u w=true
def Lat (F L:LI)(o:LI)(i:Nat):Prop:=∀(j:Nat) (v:Nat),j<i→o[j]? =some (v:Int)→∀w,nb L v w=(nb F v w&&decide ((w:Int)∉o.take (j+1)))
inductive Via (F:LI)(gone:Nat→Prop)(u:Nat):Nat→Prop
 |me:Via F gone u u
 |step {x y:Nat}:Via F gone u x→nb F x y=true→gone y→Via F gone u y
theorem Via.mono {F:LI}{g g':Nat→Prop}{u x:Nat}(h:Via F g u x)(hg:∀y,g y→g' y):Via F g' u x:=by
 induction h with
 |me=>exact .me
 |step _ h1 h2 ih=>exact .step ih h1 (hg _ h2)
theorem Via.end_ {F:LI}{g:Nat→Prop}{u x:Nat}(h:Via F g u x):x=u∨g x:=by
 cases h with
 |me=>exact .inl rfl
 |step _ _ h2=>exact .inr h2
theorem Via.lt {F:LI}{n:Nat}(hF:FOk F n){g:Nat→Prop}{u x:Nat}(hu:u<n)(h:Via F g u x):x<n:=by
 induction h with
 |me=>exact hu
 |step _ h1 _ ih=>exact hF.lt _ _ ih h1
theorem Via.back {F:LI}{n:Nat}(hF:FOk F n){g g':Nat→Prop}(hg:∀y,g y→g' y){v x:Nat}(hv:v<n)(hgv:g' v)(h:Via F g v x):∀z,Via F g' z x→Via F g' z v:=by
 induction h with
 |me=>exact λz h=>h
 |step hx h1 h2 ih=>
  intro z hz
  have hxn:=Via.lt hF hv hx
  refine ih z (.step hz (hF.sym _ _ hxn h1) ?_)
  rcases hx.end_ with e|e
  ·rw[e];exact hgv
  ·exact hg _ e
def Bhd (F:LI)(gone:Nat→Prop)(v w:Nat):Prop:=∃x,Via F gone v x∧nb F x w=true
structure EInv (n:Nat)(F0 o:LI)(i:Nat)(F L:LI)(left:Int):Prop where
 f:FOk F n
 lenL:L.length=n
 vsL:∀u,u<n→VS (L.getD u 0)
 vsl:VS left
 left:∀v,has left v=decide (v<n∧(v:Int)∉o.take i)
 mono:∀u w,u<n→nb F0 u w=true→nb F u w=true
 lat:Lat F L o i
 peo:∀(j:Nat) (v u w:Nat),j<i→o[j]? =some (v:Int)→nb F v u=true→nb F v w=true→(u:Int)∉o.take (j+1)→(w:Int)∉o.take (j+1)→u≠w→nb F u w=true
 same:PEO F0 o→F=F0
 via:∀u w:Nat,u<n→(u:Int)∉o.take i→(w:Int)∉o.take i→u≠w→(nb F u w=true↔Bhd F0 (λx=>(x:Int)∈o.take i) u w)
 latb:∀(j:Nat) (v:Nat),j<i→o[j]? =some (v:Int)→∀w:Nat,nb L v w=true↔(w:Int)∉o.take (j+1)∧Bhd F0 (λx=>(x:Int)∈o.take j) v w
theorem C3 {o:LI}{j i:Nat}(h:j≤i){x:Int}(hx:x∈o.take j):x∈o.take i:=by
 rw[mem_take_iff] at hx ⊢
 obtain⟨k,h1,h2,h3⟩:=hx
 exact⟨k,h1,by omega,h3⟩
theorem EInv.step {n:Nat}{F0 o F L:LI}{i v:Nat}{left:Int}(h16:n≤16)(h0:FOk F0 n)(hn:∀x∈o,0≤x∧x<n)(hnd:o.Nodup)(hi:i<o.length)(hv:o[i]=(v:Int))(h:EInv n F0 o i F L left){F':LI}
  (hl':F'.length=n) (hv':∀u,u<n→VS (F'.getD u 0)) (h':∀u w,u<n→nb F' u w=(nb F u w||(has (iand .u32 (F.getD v 0) (iandNot .u32 left (ishl .u32 1 (v:Int)))) u&&has (iand .u32 (F.getD v 0) (iandNot .u32 left (ishl .u32 1 (v:Int)))) w&&decide (w≠u)))):
  EInv n F0 o (i+1) F' (L.set v (iand .u32 (F.getD v 0) (iandNot .u32 left (ishl .u32 1 (v:Int))))) (iandNot .u32 left (ishl .u32 1 (v:Int))):=by
 have hvn:v<n:=by have:=hn _ (List.getElem_mem hi);omega
 have hvt:(v:Int)∉o.take i:=by rw[←hv];exact nodup_iff.1 hnd i hi
 have htk:∀x:Nat,((x:Int)∈o.take (i+1))↔((x:Int)∈o.take i∨x=v):=λx=>by
  rw[List.take_succ_eq_append_getElem hi,List.mem_append,hv];simp[Int.natCast_inj]
 have hleft:∀w,has (iandNot .u32 left (ishl .u32 1 (v:Int))) w=decide (w<n∧(w:Int)∉o.take (i+1)):=λw=>by
  rw[Bz h.vsl (VS.ishl _ _),BN (by omega),h.left,Bool.eq_iff_iff]
  simp only[Bool.and_eq_true,decide_eq_true_eq,Bool.not_eq_true',decide_eq_false_iff_not,htk]
  constructor
  ·rintro⟨⟨a,b⟩,c⟩;exact⟨a,λhh=>hh.elim b c⟩
  ·rintro⟨a,b⟩;exact⟨⟨a,λhh=>b (.inl hh)⟩,λhh=>b (.inr hh)⟩
 have hS:∀w,has (iand .u32 (F.getD v 0) (iandNot .u32 left (ishl .u32 1 (v:Int)))) w=(nb F v w&&decide ((w:Int)∉o.take (i+1))):=λw=>by
  rw[has_iand (h.f.vs v hvn) (VS.iandNot _ _),hleft,Bool.eq_iff_iff]
  show (nb F v w&&_)=true↔_
  simp only[Bool.and_eq_true,decide_eq_true_eq]
  exact⟨fun⟨a,b,c⟩=>⟨a,c⟩,fun⟨a,c⟩=>⟨a,h.f.lt v w hvn a,c⟩⟩
 have hlV:VS (iandNot .u32 left (ishl .u32 1 (v:Int))):=VS.iandNot _ _
 generalize iandNot .u32 left (ishl .u32 1 (v:Int))=left' at*
 generalize hSS:iand .u32 (F.getD v 0) left'=S at*
 have hSV:VS S:=by rw[←hSS];exact VS.iand _ _
 have hSlt:∀w,has S w=true→w<n∧(w:Int)∉o.take (i+1):=λw hw=>by
  rw[hS] at hw
  simp only[Bool.and_eq_true,decide_eq_true_eq] at hw
  exact⟨h.f.lt v w hvn hw.1,hw.2⟩
 have hmono:∀u w,u<n→nb F u w=true→nb F' u w=true:=λu w hu hh=>by rw[h' u w hu,hh];rfl
 have hold:∀x:Nat,x<n→(x:Int)∈o.take (i+1)→∀w,nb F' x w=nb F x w:=λx hx hm w=>by
  rw[h' x w hx]
  have:has S x=false:=by
   cases hc:has S x
   ·rfl
   ·exact absurd hm (hSlt x hc).2
  simp[this]
 have hf':FOk F' n:=by
  refine⟨hl',hv',λu w hu hh=> ?_,λu hu=> ?_,λu w hu hh=> ?_⟩
  ·rw[h' u w hu] at hh
   simp only[Bool.or_eq_true,Bool.and_eq_true] at hh
   rcases hh with hh|⟨⟨_,hh⟩,_⟩
   ·exact h.f.lt u w hu hh
   ·exact(hSlt w hh).1
  ·rw[h' u u hu,h.f.irr u hu];simp
  ·rw[h' u w hu] at hh
   simp only[Bool.or_eq_true,Bool.and_eq_true,decide_eq_true_eq] at hh
   rcases hh with hh|⟨⟨h1,h2⟩,h3⟩
   ·exact hmono w u (h.f.lt u w hu hh) (h.f.sym u w hu hh)
   ·rw[h' w u (hSlt w h2).1,h1,h2]
    have:decide (u≠w)=true:=by simpa using λe=>h3 e.symm
    simp[this]
 have hjv:∀j (x:Nat),o[j]? =some (x:Int)→j<o.length∧x<n∧(x:Int)∈o.take (j+1):=λj x hx=>by
  obtain⟨h1,h2⟩:=List.getElem?_eq_some_iff.1 hx
  have:=hn _ (List.getElem_mem h1)
  refine⟨h1,by omega,?_⟩
  rw[mem_take_iff];exact⟨j,h1,by omega,h2⟩
 refine⟨hf',by simp[h.lenL],λu hu=> ?_,hlV,hleft,λu w hu hh=>hmono u w hu (h.mono u w hu hh),λj x hj hx w=> ?_,λj x u w hj hx h1 h2 h3 h4 h5=> ?_,λhp=> ?_,λu w hu k1 k2 huw=> ?_,λj x hj hx w=> ?_⟩
 ·rw[getD_set _ _ _ _ (by rw[h.lenL];exact hvn)]
  split
  ·exact hSV
  ·exact h.vsL u hu
 ·obtain⟨k1,k2,k3⟩:=hjv j x hx
  have k4:=C3 (show j+1≤i+1 by omega) k3
  rw[hold x k2 k4 w]
  unfold nb
  rw[getD_set _ _ _ _ (by rw[h.lenL];exact hvn)]
  by_cases hji:j=i
  ·subst hji
   rw[List.getElem?_eq_getElem hi,hv] at hx
   have:x=v:=by
    have:(v:Int)=(x:Int):=by simpa using hx
    omega
   subst this
   rw[if_pos rfl,hS];rfl
  ·have hne:x≠v:=λe=>by
    subst e
    exact hvt (C3 (show j+1≤i by omega) k3)
   rw[if_neg hne]
   exact h.lat j x (by omega) hx w
 ·obtain⟨k1,k2,k3⟩:=hjv j x hx
  have k4:=C3 (show j+1≤i+1 by omega) k3
  rw[hold x k2 k4] at h1 h2
  by_cases hji:j=i
  ·subst hji
   rw[List.getElem?_eq_getElem hi,hv] at hx
   have:x=v:=by
    have:(v:Int)=(x:Int):=by simpa using hx
    omega
   subst this
   have hu:has S u=true:=by rw[hS,h1];simpa using h3
   have hw:has S w=true:=by rw[hS,h2];simpa using h4
   rw[h' u w (hSlt u hu).1,hu,hw]
   have:decide (w≠u)=true:=by simpa using λe=>h5 e.symm
   simp[this]
  ·exact hmono u w (h.f.lt x u k2 h1) (h.peo j x u w (by omega) hx h1 h2 h3 h4 h5)
 ·have hFF:=h.same hp
  subst hFF
  refine FOk.ext hl' h.f.len hv' h.f.vs (λu w hu=> ?_)
  rw[h' u w hu,Bool.eq_iff_iff]
  simp only[Bool.or_eq_true,Bool.and_eq_true,decide_eq_true_eq]
  constructor
  ·rintro(hh|⟨⟨h1,h2⟩,h3⟩)
   ·exact hh
   ·have k1:=(hSlt u h1).2;have k2:=(hSlt w h2).2
    rw[hS] at h1 h2
    simp only[Bool.and_eq_true] at h1 h2
    exact hp i v u w (by rw[List.getElem?_eq_getElem hi,hv]) h1.1 h2.1 k1 k2 (λe=>h3 e.symm)
  ·exact .inl
 ·have q1:(u:Int)∉o.take i:=λe=>k1 ((htk u).2 (.inl e))
  have q2:(w:Int)∉o.take i:=λe=>k2 ((htk w).2 (.inl e))
  have huv:u≠v:=λe=>k1 ((htk u).2 (.inr e))
  have hwv:w≠v:=λe=>k2 ((htk w).2 (.inr e))
  have hgg:∀y:Nat,(y:Int)∈o.take i→(y:Int)∈o.take (i+1):=λy hy=>(htk y).2 (.inl hy)
  rw[h' u w hu]
  simp only[Bool.or_eq_true,Bool.and_eq_true,decide_eq_true_eq]
  constructor
  ·rintro(hh|⟨⟨a1,a2⟩,_⟩)
   ·obtain⟨x,hx,e⟩:=(h.via u w hu q1 q2 huw).1 hh
    exact⟨x,hx.mono hgg,e⟩
   ·rw[hS] at a1 a2
    simp only[Bool.and_eq_true,decide_eq_true_eq] at a1 a2
    obtain⟨x,hx,ex⟩:=(h.via v u hvn hvt q1 (λe=>huv e.symm)).1 a1.1
    obtain⟨y,hy,ey⟩:=(h.via v w hvn hvt q2 (λe=>hwv e.symm)).1 a2.1
    have hvg:(v:Int)∈o.take (i+1):=(htk v).2 (.inr rfl)
    have hxn:=Via.lt h0 hvn hx
    have hxg:(x:Int)∈o.take (i+1):=by
     rcases hx.end_ with e|e
     ·rw[e];exact hvg
     ·exact hgg x e
    have hux:Via F0 (λx=>(x:Int)∈o.take (i+1)) u x:= .step .me (h0.sym x u hxn ex) hxg
    have huv':=Via.back h0 (g':=λx=>(x:Int)∈o.take (i+1)) hgg hvn hvg hx u hux
    have hgo:∀y,Via F0 (λx=>(x:Int)∈o.take i) v y→Via F0 (λx=>(x:Int)∈o.take (i+1)) u y:=λy hy=>by
     induction hy with
     |me=>exact huv'
     |step _ b1 b2 ih=>exact .step ih b1 (hgg _ b2)
    exact⟨y,hgo y hy,ey⟩
  ·rintro⟨x,hx,ex⟩
   have hcl:∀x,Via F0 (λx=>(x:Int)∈o.take (i+1)) u x→Via F0 (λx=>(x:Int)∈o.take i) u x∨(Bhd F0 (λx=>(x:Int)∈o.take i) u v∧Via F0 (λx=>(x:Int)∈o.take i) v x):=λx hx=>by
    induction hx with
    |me=>exact .inl .me
    | @step a b _ b1 b2 ih=>
     rcases(htk b).1 b2 with b2|b2
     ·rcases ih with ih|⟨ih1,ih2⟩
      ·exact .inl (.step ih b1 b2)
      ·exact .inr ⟨ih1,.step ih2 b1 b2⟩
     ·rcases ih with ih|⟨ih1,ih2⟩
      ·subst b2;exact .inr ⟨⟨a,ih,b1⟩,.me⟩
      ·subst b2;exact .inr ⟨ih1,.me⟩
   rcases hcl x hx with hx|⟨hx1,hx2⟩
   ·exact .inl ((h.via u w hu q1 q2 huw).2 ⟨x,hx,ex⟩)
   ·right
    have a1:=(h.via u v hu q1 hvt huv).2 hx1
    have a2:=(h.via v w hvn hvt q2 (λe=>hwv e.symm)).2 ⟨x,hx2,ex⟩
    refine⟨⟨?_,?_⟩,λe=>huw e.symm⟩
    ·rw[hS,h.f.sym u v hu a1];simpa using k1
    ·rw[hS,a2];simpa using k2
 ·obtain⟨k1,k2,k3⟩:=hjv j x hx
  unfold nb
  rw[getD_set _ _ _ _ (by rw[h.lenL];exact hvn)]
  by_cases hji:j=i
  ·subst hji
   rw[List.getElem?_eq_getElem hi,hv] at hx
   have:x=v:=by
    have:(v:Int)=(x:Int):=by simpa using hx
    omega
   subst this
   rw[if_pos rfl,hS,Bool.and_eq_true,decide_eq_true_eq]
   constructor
   ·rintro⟨b1,b2⟩
    have b3:(w:Int)∉o.take j:=λe=>b2 ((htk w).2 (.inl e))
    have b4:x≠w:=λe=>b2 ((htk w).2 (.inr e.symm))
    exact⟨b2,(h.via x w hvn hvt b3 b4).1 b1⟩
   ·rintro⟨b2,b1⟩
    have b3:(w:Int)∉o.take j:=λe=>b2 ((htk w).2 (.inl e))
    have b4:x≠w:=λe=>b2 ((htk w).2 (.inr e.symm))
    exact⟨(h.via x w hvn hvt b3 b4).2 b1,b2⟩
  ·have hne:x≠v:=λe=>by
    subst e
    exact hvt (C3 (show j+1≤i by omega) k3)
   rw[if_neg hne]
   exact h.latb j x (by omega) hx w
theorem Cm :∀{l m:LI},l.Nodup→(∀x∈l,x∈m)→l.length≤m.length
 |[],_,_,_=>by simp
 |x::l,m,h,hs=>by
  have h':=List.nodup_cons.1 h
  have hx:=hs x (by simp)
  have:=Cm (l:=l) (m:=m.erase x) h'.2 (λy hy=>by
   have hne:y≠x:=λe=>h'.1 (e▸hy)
   exact(List.mem_erase_of_ne hne).2 (hs y (by simp[hy])))
  rw[List.length_erase_of_mem hx] at this
  have hp:0<m.length:=List.length_pos_of_mem hx
  simp;omega
theorem Inc.nodup {l:LI}(h:Inc l):l.Nodup:=List.Pairwise.imp (λh e=>by omega) h
def withV (bags:LL)(v:Int):LI:=((List.range bags.length).filter λb=>decide (v∈bags.getD b [])).map Int.ofNat
theorem mem_withV {bags:LL}{v x:Int}:x∈withV bags v↔∃b:Nat,x=b∧b<bags.length∧v∈bags.getD b []:=by
 unfold withV
 rw[List.mem_map]
 constructor
 ·rintro⟨b,hb,rfl⟩
  rw[List.mem_filter,List.mem_range] at hb
  exact⟨b,rfl,hb.1,of_decide_eq_true hb.2⟩
 ·rintro⟨b,rfl,h1,h2⟩
  exact⟨b,List.mem_filter.2 ⟨List.mem_range.2 h1,decide_eq_true h2⟩,rfl⟩
def Lk (links:LL)(x y:Int):Prop:=[x,y]∈links∨[y,x]∈links
structure Closed (links:LL)(sel m:LI):Prop where
 sub:∀x∈m,x∈sel
 first:∀x,sel.head? =some x→x∈m
 step:∀x∈m,∀y∈sel,Lk links x y→y∈m
def Conn (links:LL)(sel:LI):Prop:=∀m,Closed links sel m→∀x∈sel,x∈m
def LinkIn (n:Nat)(l:LI):Prop:=∃a b:Nat,l=[(a:Int),(b:Int)]∧a<b∧b<n
structure TB (g bags links:LL):Prop where
 n1:1≤bags.length
 n16:bags.length≤16
 many:links.length+1=bags.length
 lks:∀l∈links,LinkIn bags.length l
 sets:∀b∈bags,SetOf b g.length
 tree:Conn links ((List.range bags.length).map Int.ofNat)
 edges:∀u v:Nat,u<g.length→adj g u v→∃b∈bags,(u:Int)∈b∧(v:Int)∈b
 some:∀v,v<g.length→withV bags v≠[]
 conn:∀v,v<g.length→Conn links (withV bags v)
def rowF (r:LI)(u:Nat)(s:LL):LL:=(List.range r.length).foldl (λs i=>if(u:Int)<r.getD i 0 then s++[[(u:Int),r.getD i 0]] else s) s
theorem inner_edges (r:LI)(u:Nat)(s0:LL)(h:s0.length+r.length≤4294967296){step:LL×Int→Option ((LL×Int) ⊕ LL)}
  (hstep:∀s (i:Nat) (hi:i<r.length),step (s,(i:Int))=cond (decide ((u:Int)<r[i])) ((A2 s [[(u:Int),r[i]]]).bind λl=>some (.inl (l,((i+1:Nat):Int)))) (some (.inl (s,((i+1:Nat):Int)))))
  (hend:∀s,step (s,(r.length:Int))=some (.inr s)):An step (s0,0)=some (rowF r u s0)∧(rowF r u s0).length≤s0.length+r.length:=by
 have key:=loop_nat (step:=step) r.length (λs i=>(s,i)) (λs i=>if(u:Int)<r.getD i 0 then s++[[(u:Int),r.getD i 0]] else s) (λs=>s) (λi s=>s.length≤s0.length+i) s0 (by omega)
  (λs i hi hs=> ?_) (λs _=>hend s)
 ·exact key
 ·have hg:r.getD i 0=r[i]:=AQ hi 0
  refine⟨?_,?_⟩
  ·rw[hstep s i hi,hg]
   by_cases hc:(u:Int)<r[i]
   ·rw[decide_eq_true hc,cond_true,Bu (by simp;omega),if_pos hc];rfl
   ·rw[decide_eq_false hc,cond_false,if_neg hc]
  ·rw[hg]
   split
   ·rw[List.length_append,List.length_singleton];omega
   ·omega
def edgesF (g:LL):LL:=(List.range g.length).foldl (λs u=>rowF (row g u) u s) []
theorem Fi (g:LL)(hg:GOk g):D.j1 g=some (edgesF g):=by
 have h16:=hg.n16
 unfold D.j1
 have key:=loop_nat (ρ:=LL) (step:=(fun(s_288:LL×Int)=>match s_288 with|(l_291,x_296)=>cond (decide (x_296<(g.length:Int))) ((idx g x_296).bind λe_441=>(An (σ:=LL×Int) (ρ:=(LL)) (fun(s_508:LL×Int)=>match s_508 with|(l_511,x_516)=>cond (decide (x_516<(e_441.length:Int))) ((idx e_441 x_516).bind λe_551=>cond (decide (x_296<e_551)) ((A2 l_511 ([([x_296,e_551]:LI)]:LL)).bind λl_569=>some (.inl (l_569,(IntKind.i64.wrap (x_516+1))))) (some (.inl (l_511,(IntKind.i64.wrap (x_516+1)))))) (some (.inr l_511))) (l_291,0)).bind λl_544=>some (.inl (l_544,(IntKind.i64.wrap (x_296+1))))) (some (.inr l_291))))
  g.length (λs i=>(s,i)) (λs u=>rowF (row g u) u s) (λs=>s) (λi s=>s.length≤16*i) [] (by simp) (λs u hu hs=> ?_) (λs _=> ?_)
 ·exact congrArg (λz=>Option.bind z λl=>some l) key.1
 ·have hr:=hg.row_len hu
  obtain⟨k1,k2⟩:=inner_edges (row g u) u s (by omega) (step:=(fun(s_508:LL×Int)=>match s_508 with|(l_511,x_516)=>cond (decide (x_516<((row g u).length:Int))) ((idx (row g u) x_516).bind λe_551=>cond (decide ((u:Int)<e_551)) ((A2 l_511 ([([(u:Int),e_551]:LI)]:LL)).bind λl_569=>some (.inl (l_569,(IntKind.i64.wrap (x_516+1))))) (some (.inl (l_511,(IntKind.i64.wrap (x_516+1)))))) (some (.inr l_511)))) (λs i hi=>by
    simp only[dlt hi,cond_true,AK hi,bs,wq i]) (λs=>by simp only[Bg,cond_false])
  refine⟨?_,by omega⟩
  simp only[dlt hu,cond_true,BH hu,bs,wq u]
  exact(congrArg (λz=>Option.bind z _) k1).trans rfl
 ·simp only[Bg,cond_false]
theorem GOk.sh2 {g:LL}(hg:GOk g):Sh2 g:=by
 have h16:=hg.n16
 exact⟨by unfold Sh;omega,λr hr=>by have:=(hg.mem0 hr).1;unfold Sh;omega⟩
theorem Ct {g:LL}(hg:GOk g):gB g=true:=(gB_iff g).2 hg
theorem DE (g:LL)(hg:GOk g):D.W0 g=some ((edgesF g).length:Int):=by
 unfold D.W0 D.r1
 rw[BC g hg.sh2,Ct hg,bs,Bool.not_true,cond_false,Fi g hg];rfl
theorem nets_graph_eq (F:LI)(h:F.length≤16)(hV:∀u,u<F.length→VS (F.getD u 0)):D.h1 F=some (grow F):=by
 unfold D.h1
 refine(Dp F (λs i=>(i,s)) AO (by omega) (λs i hi _=> ?_) (λs=> ?_)).trans rfl
 ·have:=hV i hi
  rw[AQ hi] at this
  simp only[dlt hi,cond_true,AK hi,bs,numbers_eq _ this,wq i]
 ·simp only[Bg,cond_false]
theorem OOk.sh {g:LL}{o:LI}(hg:GOk g)(ho:OOk g o):Sh o:=by
 have:=hg.n16;have:=ho.len;unfold Sh;omega
theorem EW {g:LL}{o:LI}(hg:GOk g)(ho:OOk g o):D.Y0 g o=some true:=by
 rw[Fk g o hg.sh2 (ho.sh hg),Ct hg,(ordB_iff g o).2 ho];rfl
structure Fill (g:LL)(o F L:LI):Prop where
 elim:D.v1 (g.map mk) o=some (F,L)
 f:FOk F g.length
 lenL:L.length=g.length
 vsL:∀u,u<g.length→VS (L.getD u 0)
 mono:∀u w,u<g.length→adj g u w→nb F u w=true
 lat:Lat F L o g.length
 peo:PEO F o
 same:PEO (g.map mk) o→F=g.map mk
 latb:∀(j:Nat) (v:Nat),o[j]? =some (v:Int)→∀w:Nat,nb L v w=true↔(w:Int)∉o.take (j+1)∧Bhd (g.map mk) (λx=>(x:Int)∈o.take j) v w
theorem Fill.FillOf {g:LL}{o F L:LI}(hg:GOk g)(ho:OOk g o)(h:Fill g o F L):D.d1 g o=some (grow F,true):=by
 have h16:=hg.n16
 unfold D.d1
 rw[EW hg ho,bs,Bool.not_true,cond_false,C9 g hg,bs,narrow_eq o (ho.sh hg),bs,h.elim,bs,nets_graph_eq F (by rw[h.f.len];omega) (λu hu=>h.f.vs u (by rw[h.f.len] at hu;exact hu))]
 rfl
theorem Fill.gok {g:LL}{o F L:LI}(hg:GOk g)(h:Fill g o F L):GOk (grow F):=GOk.grow h.f hg.n1 hg.n16
def Bw (f:Nat→Nat):Nat→Nat
 |0=>0
 |n+1=>Bw f n+f n
theorem Dh {f g:Nat→Nat}:∀{n:Nat},(∀i,i<n→f i=g i)→Bw f n=Bw g n
 |0,_=>rfl
 |n+1,h=>by simp only[Bw];rw[Dh (n:=n) (λi hi=>h i (by omega)),h n (by omega)]
theorem Ev (f g:Nat→Nat):∀n,Bw (λi=>f i+g i) n=Bw f n+Bw g n
 |0=>rfl
 |n+1=>by simp only[Bw];rw[Ev f g n];omega
theorem sumN_zero :∀n,Bw (λ_=>0) n=0
 |0=>rfl
 |n+1=>by simp only[Bw];rw[sumN_zero n]
theorem sumN_swap (f:Nat→Nat→Nat)(m:Nat):∀n,Bw (λi=>Bw (f i) m) n=Bw (λj=>Bw (λi=>f i j) n) m
 |0=>by simp only[Bw];rw[sumN_zero]
 |n+1=>by simp only[Bw];rw[sumN_swap f m n,←Ev]
def bit (b:Bool):Nat:=if b then 1 else 0
theorem filter_len (p:Nat→Bool):∀n,((List.range n).filter p).length=Bw (λi=>bit (p i)) n
 |0=>rfl
 |n+1=>by
  rw[List.range_succ,List.filter_append,List.length_append,filter_len p n]
  simp only[Bw,bit]
  cases h:p n<;>simp[h]
theorem sumN_tail {f : Nat → Nat} {n m : Nat} (h : n ≤ m) (hz : ∀ i, n ≤ i → f i = 0) : Bw f m = Bw f n := by
  induction m with
  | zero => obtain rfl : n = 0 := by omega
            rfl
  | succ m ih =>
    by_cases hm : n = m + 1
    · rw [hm]
    · simp only [Bw]; rw [ih (by omega), hz m (by omega)]; rfl
theorem elems_sum {s:Int}{n:Nat}(hn:n≤32)(h:∀v,has s v=true→v<n):(AO s).length=Bw (λv=>bit (has s v)) n:=by
 unfold AO
 rw[List.length_map,filter_len]
 refine sumN_tail hn (λi hi=> ?_)
 unfold bit
 cases hc:has s i
 ·rfl
 ·have:=h i hc;omega
def S2 (n:Nat)(p:Nat→Nat→Bool):Nat:=Bw (λu=>Bw (λw=>bit (p u w)) n) n
theorem S2_congr {n:Nat}{p q:Nat→Nat→Bool}(h:∀u w,u<n→w<n→p u w=q u w):S2 n p=S2 n q:=
 Dh λu hu=>Dh λw hw=>by rw[h u w hu hw]
theorem S2_swap (n:Nat)(p:Nat→Nat→Bool):S2 n p=S2 n (λu w=>p w u):=by
 unfold S2
 rw[sumN_swap]
theorem S2_or (n:Nat)(p q:Nat→Nat→Bool)(h:∀u w,u<n→w<n→p u w=true→q u w=true→False):S2 n (λu w=>p u w||q u w)=S2 n p+S2 n q:=by
 unfold S2
 rw[←Ev]
 refine Dh λu hu=> ?_
 rw[←Ev]
 refine Dh λw hw=> ?_
 have:=h u w hu hw
 unfold bit
 cases h1:p u w<;>cases h2:q u w<;>simp_all
def ast (f:Int→Int)(s:Int×Int)(v:Int):Int×Int:=if s.1<0∨f v<s.2 then(v,f v) else s
def amin (f:Int→Int)(l:LI):Int×Int:=l.foldl (ast f) (-1,0)
theorem ast_run (f:Int→Int):∀(l:LI) (b:Int),0≤b→(∀x∈l,0≤x)→∃c,l.foldl (ast f) (b,f b)=(c,f c)∧(c=b∨c∈l)∧0≤c∧f c≤f b∧∀x∈l,f c≤f x
 |[],b,hb,_=>⟨b,rfl,.inl rfl,hb,Int.le_refl _,by simp⟩
 |x::l,b,hb,hl=>by
  have hx:=hl x (by simp)
  have hl':=λy hy=>hl y (List.mem_cons_of_mem x hy)
  rw[List.foldl_cons]
  by_cases hc:f x<f b
  ·have e:ast f (b,f b) x=(x,f x):=by unfold ast;rw[if_pos (.inr hc)]
   rw[e]
   obtain⟨c,h1,h2,h3,h4,h5⟩:=ast_run f l x hx hl'
   refine⟨c,h1,.inr ?_,h3,by omega,λy hy=> ?_⟩
   ·rcases h2 with rfl|h2
    ·simp
    ·exact List.mem_cons_of_mem _ h2
   ·rcases List.mem_cons.1 hy with rfl|hy
    ·exact h4
    ·exact h5 y hy
  ·have e:ast f (b,f b) x=(b,f b):=by unfold ast;rw[if_neg (λh=>h.elim (λh=>by dsimp only at h;omega) hc)]
   rw[e]
   obtain⟨c,h1,h2,h3,h4,h5⟩:=ast_run f l b hb hl'
   refine⟨c,h1,?_,h3,h4,λy hy=> ?_⟩
   ·rcases h2 with h2|h2
    ·exact .inl h2
    ·exact .inr (List.mem_cons_of_mem _ h2)
   ·rcases List.mem_cons.1 hy with rfl|hy
    ·omega
    ·exact h5 y hy
theorem ast_first (f:Int→Int)(x:Int):ast f (-1,0) x=(x,f x):=by unfold ast;rw[if_pos (.inl (by decide))]
theorem amin_ok (f:Int→Int){l:LI}(hne:l≠[])(hl:∀x∈l,0≤x):∃c,amin f l=(c,f c)∧c∈l∧∀x∈l,f c≤f x:=by
 cases l with
 |nil=>exact absurd rfl hne
 |cons x l=>
  unfold amin
  rw[List.foldl_cons,ast_first]
  obtain⟨c,h1,h2,h3,h4,h5⟩:=ast_run f l x (hl x (by simp)) (λy hy=>hl y (List.mem_cons_of_mem _ hy))
  refine⟨c,h1,?_,λy hy=> ?_⟩
  ·rcases h2 with rfl|h2
   ·simp
   ·exact List.mem_cons_of_mem _ h2
  ·rcases List.mem_cons.1 hy with rfl|hy
   ·exact h4
   ·exact h5 y hy
theorem elems_nonneg (s:Int):∀x∈AO s,0≤x:=λx hx=>by
 obtain⟨v,_,_,rfl⟩:=mem_elems.1 hx;omega
def full (n:Nat):Int:=IntKind.u32.wrap (ishl .u32 1 (n:Int)-1)
theorem Fill.many {g:LL}{o F L:LI}(hg:GOk g)(ho:OOk g o)(h:Fill g o F L):D.q1 g o=some (IntKind.i64.wrap (((edgesF (grow F)).length:Int)-((edgesF g).length:Int))):=by
 unfold D.q1
 rw[h.FillOf hg ho,bs]
 simp only[Bool.not_true,cond_false]
 rw[DE _ (h.gok hg),bs,DE _ hg]
 rfl
section
variable {g : LL} {o : LI} (hg : GOk g) (ho : OOk g o)
include hg ho
end
end Go.Sx

namespace Go.Sx
section
variable {g : LL} {o : LI} (hg : GOk g) (ho : OOk g o)
include hg ho
def mx (f:Nat→Int):Nat→Int
 |0=>0
 |n+1=>max (mx f n) (f n)
end
end Go.Sx

namespace Go.Sx
def dg (g:LL)(s:Int)(v:Int):Int:=((AO (iand .u32 (mk (row g v.toNat)) s)).length:Int)
structure SQ (n:Nat)(s:Int)(k:Nat):Prop where
 vs:VS s
 lt:∀v,has s v=true→v<n
 card:(AO s).length=k
theorem SQ.ne {n k:Nat}{s:Int}(h:SQ n s (k+1)):AO s≠[]:=λe=>by have:=h.card;rw[e] at this;simp at this
theorem SQ.z {n:Nat}{s:Int}(h:SQ n s 0):s=0:=by
 rw[h.vs.eq_zero]
 intro v hv
 cases hc:has s v
 ·rfl
 ·have:(v:Int)∈AO s:=(BW h.vs).2 hc
  have h0:=h.card
  rw[List.length_eq_zero_iff] at h0
  rw[h0] at this;simp at this
theorem SQ.min {n k:Nat}{s:Int}(h:SQ n s (k+1))(f:Int→Int):∃c:Nat,c<n∧has s c=true∧amin f (AO s)=((c:Int),f c)∧∀v:Nat,has s v=true→f c≤f v:=by
 obtain⟨c,h1,h2,h3⟩:=amin_ok f h.ne (elems_nonneg s)
 obtain⟨v,_,h5,rfl⟩:=mem_elems.1 h2
 exact⟨v,h.lt v h5,h5,h1,λw hw=>h3 w ((BW h.vs).2 hw)⟩
noncomputable def elimF (F:LI)(s b:Int):LI:=(D.A1 F s b).getD []
structure GQ (n i:Nat)(F o:LI)(s:Int):Prop where
 f:FOk F n
 left:SQ n s (n-i)
 len:o.length=i
 rng:∀x∈o,∃v:Nat,x=v∧v<n∧has s v=false
 nd:o.Nodup
noncomputable def ef (g:LL)(o:LI):Nat→LI×LI×Int
 |0=>(g.map mk,List.replicate g.length 0,full g.length)
 |i+1=>(elimF (ef g o i).1 (ef g o i).2.2 (o.getD i 0),(ef g o i).2.1.set (o.getD i 0).toNat (iand .u32 ((ef g o i).1.getD (o.getD i 0).toNat 0) (iandNot .u32 (ef g o i).2.2 (ishl .u32 1 (o.getD i 0)))),
   iandNot .u32 (ef g o i).2.2 (ishl .u32 1 (o.getD i 0)))
section
variable {g : LL} {o : LI} (hg : GOk g) (ho : OOk g o)
include hg ho
end
end Go.Sx

namespace Go.Sx
structure Net (A:LI)(n:Nat):Prop where
 len:A.length=n
 vs:∀u,u<n→VS (A.getD u 0)
 lt:∀u w,u<n→nb A u w=true→w<n
structure Rch (A:LI)(W:Int)(v:Nat)(S:Int):Prop where
 vs:VS S
 me:has S v=true
 step:∀x y,has S x=true→nb A x y=true→has W y=true→has S y=true
 least:∀T:Nat→Prop,T v→(∀x y,T x→nb A x y=true→has W y=true→T y)→∀x,has S x=true→T x
def cz :LI→LI→Int
 |[],[]=>0
 |[],_::_=> -1
 |_::_,[]=>1
 |a::x,b::y=>if a<b then-1 else if b<a then 1 else cz x y
def lk :Nat→LI→Int
 |0,_=>0
 |_+1,[]=>0
 |d+1,a::l=>(a+1)*33^d+lk d l
def lkey (s:Int):Int:=lk 32 (AO s)
def skey (s:Int):Int:=((AO s).length:Int)*33^32+lkey s
def CQ (F:LI)(K:Int):Prop:=∀u w,has K u=true→has K w=true→u≠w→nb F u w=true
def MX (F:LI)(n:Nat)(K:Int):Prop:=CQ F K∧∀w,w<n→has K w=false→∃u,has K u=true∧nb F u w=false
def In (n:Nat)(K:Int):Prop:=VS K∧∀w,has K w=true→w<n
structure Tgt (F:LI)(n:Nat)(C O K:Int):Prop where
 ok:In n K
 mx:MX F n K
 sup:∀w,has C w=true→has K w=true
 sub:∀w,has K w=true→has C w=true∨has O w=true
theorem In.lt {n:Nat}{K:Int}(h:In n K)(hn:n≤16):0≤K∧K<65536:=by
 obtain⟨m,rfl,hm⟩:=h.1.nat
 refine⟨by omega,?_⟩
 have:m<2^16:=by
  apply Nat.lt_pow_two_of_testBit
  intro i hi
  cases hc:m.testBit i
  ·rfl
  ·have:=h.2 i (by rw[BV];exact hc)
   omega
 omega
theorem masks_len {n:Nat}{l:LI}(hn:n≤16)(h:∀K∈l,In n K)(hd:l.Nodup):l.length≤65536:=by
 have:=Cm (m:=(List.range 65536).map Int.ofNat) hd (λK hK=>by
  have:=(h K hK).lt hn
  exact List.mem_map.2 ⟨K.toNat,List.mem_range.2 (by omega),by show ((K.toNat:Nat):Int)=K;omega⟩)
 simpa using this
structure BK (F:LI)(n:Nat)(C O S:Int):Prop where
 c:In n C
 o:In n O
 s:In n S
 cq:CQ F C
 cn:∀w,w<n→((has O w=true∨has S w=true)↔∀u,has C u=true→nb F u w=true)
 dis:∀w,has O w=true→has S w=false
theorem rise_nodup {k:Int→Int}{l:LI}(h:l.Pairwise (λa b=>k a<k b)):l.Nodup:=List.Pairwise.imp (λh e=>by subst e;omega) h
def Dw {α:Type}(b:LI)(P:α→Prop)(e:Option (α×LI×Int×Int)):Prop:=∃y,e=some y∧(P y.1∧y.2.1=b∧DK b y.2.2.1)
theorem Dw.then {α β:Type}{b:LI}{P:α→Prop}{e:Option (α×LI×Int×Int)}{k:α×LI×Int×Int→Option β}{Q:β→Prop}(h:Dw b P e)
  (hk:∀a i z,P a→DK b i→∃y,k (a,b,i,z)=some y∧Q y):∃y,e.bind k=some y∧Q y:=by
 obtain⟨⟨a,b',i,z⟩,rfl,h1,h2,h3⟩:=h
 dsimp only at h1 h2 h3
 subst h2
 exact hk a i z h1 h3
def Few (g:LL):Prop:=g.length≤17∧∀r∈g,r.length≤17
theorem Few.sh2 {g:LL}(h:Few g):Sh2 g:=⟨by have:=h.1;unfold Sh;omega,λr hr=>by have:=h.2 r hr;unfold Sh;omega⟩
theorem GOk.few {g:LL}(hg:GOk g):Few g:=by
 have h16:=hg.n16
 exact⟨by omega,λr hr=>by have:=(hg.mem0 hr).1;omega⟩
theorem Few.set {g:LL}(h:Few g)(k:Nat){r:LI}(hr:r.length≤17):Few (g.set k r):=by
 refine⟨by have:=h.1;simpa using this,λx hx=> ?_⟩
 rcases List.mem_or_eq_of_mem_set hx with hx|rfl
 ·exact h.2 x hx
 ·exact hr
theorem Es {n:Nat}{x:LI}(hn:n≤16)(hi:Inc x)(hr:∀z∈x,0≤z∧z<n):AO (mk x)=x:=by
 have h32:∀z∈x,0≤z∧z<32:=λz hz=>by have:=hr z hz;omega
 refine Inc.ext (CK _) hi (λz=> ?_)
 rw[mem_elems]
 constructor
 ·rintro⟨v,_,h,rfl⟩
  rw[has_mk h32] at h
  exact of_decide_eq_true h
 ·intro hz
  have:=h32 z hz
  refine⟨z.toNat,by omega,?_,by omega⟩
  rw[has_mk h32,show ((z.toNat:Nat):Int)=z by omega]
  exact decide_eq_true hz
def Cq (g:LL)(x:LI):Prop:=∀u w:Nat,(u:Int)∈x→(w:Int)∈x→u≠w→adj g u w
structure Fin' (g:LL)(x:LI):Prop where
 inc:Inc x
 rng:∀z∈x,0≤z∧z<g.length
 cq:Cq g x
 mx:∀w,w<g.length→∃u:Nat,(u:Int)∈x∧¬adj g u w
def Sol (g:LL)(set left x:LI):Prop:=∃y,x=set++y∧(∀z∈y,z∈left)∧Fin' g x
structure SK (g:LL)(set left out:LI):Prop where
 inc:Inc (set++left)
 r1:∀z∈set++left,0≤z∧z<g.length
 r2:∀z∈out,0≤z∧z<g.length
 cq:Cq g set
 cn:∀w:Nat,w<g.length→(((w:Int)∈left∨(w:Int)∈out)↔∀u:Nat,(u:Int)∈set→adj g u w)
 len:out.length+left.length≤16
theorem SK.next {g:LL}(hg:GOk g){set left out:LI}(h:SK g set left out){i v:Nat}(hi:i<left.length)(hv:left[i]=(v:Int)):
  SK g (set++[(v:Int)]) ((left.drop (i+1)).filter λx=>decide (x∈row g v)) ((out++left.take i).filter λx=>decide (x∈row g v))∧
  (∀x,Sol g (set++[(v:Int)]) ((left.drop (i+1)).filter λx=>decide (x∈row g v)) x↔∃y,x=set++(v:Int)::y∧(∀z∈y,z∈left)∧Fin' g x):=by
 have hvm:(v:Int)∈left:=by rw[←hv];exact List.getElem_mem hi
 have hvr:=h.r1 _ (List.mem_append.2 (.inr hvm))
 have hvn:v<g.length:=by omega
 have hinc:=List.pairwise_append.1 h.inc
 have hsplit:left=left.take i++(v:Int)::left.drop (i+1):=by
  rw[←hv,List.getElem_cons_drop,List.take_append_drop]
 have hdrop:∀z,z∈left.drop (i+1)↔z∈left∧(v:Int)<z:=λz=>by
  have h2:=hinc.2.1
  rw[hsplit] at h2
  have h3:=List.pairwise_append.1 h2
  have h4:=List.pairwise_cons.1 h3.2.1
  constructor
  ·intro hz
   exact⟨List.mem_of_mem_drop hz,h4.1 z hz⟩
  ·rintro⟨h5,h6⟩
   rw[hsplit] at h5
   rcases List.mem_append.1 h5 with h5|h5
   ·have:=h3.2.2 z h5 (v:Int) (by simp);omega
   ·rcases List.mem_cons.1 h5 with rfl|h5
    ·omega
    ·exact h5
 refine⟨⟨?_,?_,?_,?_,?_,?_⟩,λx=> ?_⟩
 ·rw[List.append_assoc]
  refine List.pairwise_append.2 ⟨hinc.1,?_,λa ha b hb=> ?_⟩
  ·rw[List.singleton_append]
   refine List.pairwise_cons.2 ⟨λz hz=>((hdrop z).1 (List.mem_filter.1 hz).1).2,?_⟩
   exact List.Pairwise.filter _ (List.Pairwise.sublist (List.drop_sublist _ _) hinc.2.1)
  ·refine hinc.2.2 a ha b ?_
   rw[List.singleton_append] at hb
   rcases List.mem_cons.1 hb with rfl|hb
   ·exact hvm
   ·exact((hdrop b).1 (List.mem_filter.1 hb).1).1
 ·intro z hz
  rcases List.mem_append.1 hz with hz|hz
  ·rcases List.mem_append.1 hz with hz|hz
   ·exact h.r1 z (List.mem_append.2 (.inl hz))
   ·simp at hz;subst hz;exact hvr
  ·exact h.r1 z (List.mem_append.2 (.inr ((hdrop z).1 (List.mem_filter.1 hz).1).1))
 ·intro z hz
  rcases List.mem_append.1 (List.mem_filter.1 hz).1 with hz|hz
  ·exact h.r2 z hz
  ·exact h.r1 z (List.mem_append.2 (.inr (List.mem_of_mem_take hz)))
 ·intro u w hu hw hne
  have key:∀a:Nat,(a:Int)∈set→adj g a v:=λa ha=>(h.cn v hvn).1 (.inl hvm) a ha
  rcases List.mem_append.1 hu with hu1|hu1<;>rcases List.mem_append.1 hw with hw1|hw1
  ·exact h.cq u w hu1 hw1 hne
  ·have e:w=v:=by simp at hw1;omega
   rw[e];exact key u hu1
  ·have e:u=v:=by simp at hu1;omega
   rw[e]
   have:=h.r1 _ (List.mem_append.2 (.inl hw1))
   exact hg.sym w v (by omega) (key w hw1)
  ·simp at hu1 hw1;omega
 ·intro w hw
  have h1:=h.cn w hw
  have hself:(w:Int)∈row g v→w≠v:=λha e=>by subst e;exact hg.irr w hw ha
  constructor
  ·intro hm u hu
   have hm':((w:Int)∈left∨(w:Int)∈out)∧(w:Int)∈row g v:=by
    rcases hm with hm|hm
    ·obtain⟨a1,a2⟩:=List.mem_filter.1 hm
     exact⟨.inl ((hdrop _).1 a1).1,of_decide_eq_true a2⟩
    ·obtain⟨a1,a2⟩:=List.mem_filter.1 hm
     refine⟨?_,of_decide_eq_true a2⟩
     rcases List.mem_append.1 a1 with a1|a1
     ·exact .inr a1
     ·exact .inl (List.mem_of_mem_take a1)
   rcases List.mem_append.1 hu with hu|hu
   ·exact h1.1 hm'.1 u hu
   ·have:u=v:=by simp at hu;omega
    subst this;exact hm'.2
  ·intro hA
   have hav:(w:Int)∈row g v:=hA v (by simp)
   have hne:=hself hav
   rcases h1.2 (λu hu=>hA u (List.mem_append.2 (.inl hu))) with hm|hm
   ·rw[hsplit] at hm
    rcases List.mem_append.1 hm with hm|hm
    ·exact .inr (List.mem_filter.2 ⟨List.mem_append.2 (.inr hm),decide_eq_true hav⟩)
    ·rcases List.mem_cons.1 hm with hm|hm
     ·omega
     ·exact .inl (List.mem_filter.2 ⟨hm,decide_eq_true hav⟩)
   ·exact .inr (List.mem_filter.2 ⟨List.mem_append.2 (.inl hm),decide_eq_true hav⟩)
 ·have a1:((left.drop (i+1)).filter λx=>decide (x∈row g v)).length≤(left.drop (i+1)).length:=List.length_filter_le _ _
  have a2:((out++left.take i).filter λx=>decide (x∈row g v)).length≤(out++left.take i).length:=List.length_filter_le _ _
  have:=h.len
  simp only[List.length_drop,List.length_append,List.length_take] at a1 a2
  omega
 ·constructor
  ·rintro⟨y,rfl,hy,hf⟩
   exact⟨y,by simp,λz hz=>((hdrop z).1 (List.mem_filter.1 (hy z hz)).1).1,hf⟩
  ·rintro⟨y,rfl,hy,hf⟩
   refine⟨y,by simp,λz hz=> ?_,hf⟩
   have hz2:=hf.rng z (by simp[hz])
   have h6:=(List.pairwise_cons.1 (List.pairwise_append.1 hf.inc).2.1).1 z hz
   refine List.mem_filter.2 ⟨(hdrop z).2 ⟨hy z hz,h6⟩,decide_eq_true ?_⟩
   have:=hf.cq v z.toNat (by simp) (by rw[show ((z.toNat:Nat):Int)=z by omega];simp[hz]) (by omega)
   unfold adj at this
   rwa [show ((z.toNat:Nat):Int)=z by omega] at this
structure GC (g:LL)(l:LI):Prop where
 up:l.Pairwise λa b=>lkey a<lkey b
 mem:∀K,K∈l↔In g.length K∧MX (g.map mk) g.length K
def mis (F:LI)(n:Nat)(S:Int):Nat:=S2 n (λu w=>has S u&&(has S w&&(decide (w<u)&& !nb F w u)))
def cd (F:LI)(s v:Int):Int:=((AO (iand .u32 (F.getD v.toNat 0) s)).length:Int)
def cf (n:Nat)(F:LI)(s v:Int):Int:=(mis F n (iand .u32 (F.getD v.toNat 0) s):Int)
section
variable {g : LL} (hg : GOk g)
include hg
theorem OOk.shl {o:LI}(ho:OOk g o):Sh o:=ho.sh hg
end
end Go.Sx

namespace Go.Sx
def S16 (s:Int):Prop:=0≤s∧s<65536
theorem S16.vs {s:Int}(h:S16 s):VS s:=⟨h.1,by have:=h.2;omega⟩
theorem S16.nat {s:Int}(h:S16 s):∃n:Nat,s=n∧n<65536:=⟨s.toNat,by have:=h.1;omega,by have:=h.1;have:=h.2;omega⟩
theorem S16.lt {s:Int}(h:S16 s){v:Nat}(hv:has s v=true):v<16:=by
 obtain⟨n,rfl,hn⟩:=h.nat
 rw[BV] at hv
 have:=Nat.ge_two_pow_of_testBit hv
 apply Classical.byContradiction
 intro hc
 have h2:2^16≤2^v:=Nat.pow_le_pow_right (by omega) (by omega)
 omega
theorem In.of {n i:Nat}(h:i<2^n)(hn:n≤16):In n (i:Int):=by
 have:2^n≤2^16:=Nat.pow_le_pow_right (by omega) hn
 refine⟨⟨by omega,by omega⟩,λw hw=> ?_⟩
 rw[BV] at hw
 have:=Nat.ge_two_pow_of_testBit hw
 apply Classical.byContradiction
 intro hc
 have h2:2^n≤2^w:=Nat.pow_le_pow_right (by omega) (by omega)
 omega
theorem Fa {s:Int}(h:VS s){v:Nat}(hv:v<32):D.A s (v:Int)=some (has s v):=by
 unfold D.A
 have:decide ((v:Int)<0)=false:=by simp
 rw[this,cond_false,bitAt_eq h hv]
theorem l1Same_eq (x y:LI)(hx:Sh x):D.m0 x y=some (decide (x=y)):=by
 unfold Sh at hx
 unfold D.m0
 by_cases hl:x.length=y.length
 ·have e:((x.length:Int) !=(y.length:Int))=false:=by simp[hl]
  rw[e,cond_false]
  refine(Dx x.length (λi=>x.getD i 0==y.getD i 0) false (λi hi=> ?_) ?_ rfl rfl).trans ?_
  ·have hi':i<y.length:=by omega
   simp only[dlt hi,cond_true,AK hi,AK hi',bs,AQ hi,AQ hi',wq i]
   by_cases h:x[i]=y[i]
   ·have:(x[i] !=y[i])=false:=by simp[h]
    rw[this,cond_false,if_pos (by simp[h])]
   ·have:(x[i] !=y[i])=true:=by simp[h]
    rw[this,cond_true,if_neg (by simp[h])]
  ·simp only[Bg,cond_false]
  ·congr 1
   rw[Bool.eq_iff_iff,De,decide_eq_true_eq]
   constructor
   ·intro h
    exact ext_getD hl (λj hj=>by have:=h j hj;simpa using this)
   ·rintro rfl i _;simp
 ·have e:((x.length:Int) !=(y.length:Int))=true:=by simp;omega
  rw[e,cond_true,decide_eq_false (λh=>hl (by rw[h]))]
abbrev Pr :=Int×Int×Int
def DL (n:Nat)(F:LI)(v:Nat)(S:Int):LI:=(List.range n).map λu=>ior .u32 (ior .u32 (F.getD u 0) (if u=v then S else 0)) (if has S u then ishl .u32 1 (v:Int) else 0)
theorem joinF_get {n:Nat}{F:LI}{v u:Nat}{S:Int}(hu:u<n):(DL n F v S).getD u 0=ior .u32 (ior .u32 (F.getD u 0) (if u=v then S else 0)) (if has S u then ishl .u32 1 (v:Int) else 0):=by
 unfold DL
 rw[AQ (by simpa using hu)];simp
theorem vs_ite {c:Prop}[Decidable c]{a b:Int}(ha:VS a)(hb:VS b):VS (if c then a else b):=by split<;>assumption
theorem Dq {n:Nat}{F:LI}{v u:Nat}{S:Int}(hn:n≤16)(hF:FOk F n)(hS:In n S)(hv:v<n)(hu:u<n)(w:Nat):nb (DL n F v S) u w=(nb F u w||(decide (u=v)&&has S w)||(has S u&&decide (w=v))):=by
 unfold nb
 rw[joinF_get hu,CB (VS.ior _ _) (vs_ite (VS.ishl _ _) VS.zero),CB (hF.vs u hu) (vs_ite hS.1 VS.zero)]
 congr 1
 ·congr 1
  by_cases h:u=v
  ·rw[if_pos h,decide_eq_true h];simp
  ·rw[if_neg h,decide_eq_false h,BM];simp
 ·cases hc:has S u
  ·rw[if_neg (by simp),BM];simp
  ·rw[if_pos rfl,BN (by omega)];simp
theorem joinF_ok {n:Nat}{F:LI}{v:Nat}{S:Int}(hn:n≤16)(hF:FOk F n)(hS:In n S)(hv:v<n)(hSv:has S v=false):FOk (DL n F v S) n:=by
 refine⟨by simp[DL],λu hu=>by rw[joinF_get hu];exact VS.ior _ _,λu w hu h=> ?_,λu hu=> ?_,λu w hu h=> ?_⟩
 ·rw[Dq hn hF hS hv hu] at h
  simp only[Bool.or_eq_true,Bool.and_eq_true,decide_eq_true_eq] at h
  rcases h with(h|h)|h
  ·exact hF.lt u w hu h
  ·exact hS.2 w h.2
  ·omega
 ·rw[Dq hn hF hS hv hu,hF.irr u hu]
  by_cases h:u=v
  ·subst h;simp[hSv]
  ·simp[h]
 ·have hw:w<n:=by
   rw[Dq hn hF hS hv hu] at h
   simp only[Bool.or_eq_true,Bool.and_eq_true,decide_eq_true_eq] at h
   rcases h with(h|h)|h
   ·exact hF.lt u w hu h
   ·exact hS.2 w h.2
   ·omega
  rw[Dq hn hF hS hv hu] at h
  rw[Dq hn hF hS hv hw]
  simp only[Bool.or_eq_true,Bool.and_eq_true,decide_eq_true_eq] at h ⊢
  rcases h with(h|h)|h
  ·exact .inl (.inl (hF.sym u w hu h))
  ·exact .inr ⟨h.2,h.1⟩
  ·exact .inl (.inr ⟨h.2,h.1⟩)
structure PK (n:Nat)(o:LI):Prop where
 len:o.length=n
 rng:∀x∈o,0≤x∧x<n
 nd:o.Nodup
def pl (o:LI)(v:Nat):Nat:=o.idxOf (v:Int)
theorem PK.mem {n:Nat}{o:LI}(h:PK n o){v:Nat}(hv:v<n):(v:Int)∈o:=by
 by_cases hc:(v:Int)∈o
 ·exact hc
 ·have:=Cm (l:=(v:Int)::o) (m:=(List.range n).map Int.ofNat) (List.nodup_cons.2 ⟨hc,h.nd⟩) (λx hx=>by
   have hx':0≤x∧x<n:=by
    rcases List.mem_cons.1 hx with rfl|hx
    ·omega
    ·exact h.rng x hx
   exact List.mem_map.2 ⟨x.toNat,List.mem_range.2 (by omega),by show ((x.toNat:Nat):Int)=x;omega⟩)
  have hl:=h.len
  simp at this;omega
theorem PK.pl_lt {n:Nat}{o:LI}(h:PK n o){v:Nat}(hv:v<n):pl o v<n:=by
 have:=List.idxOf_lt_length_iff.2 (h.mem hv)
 have hl:=h.len
 unfold pl;omega
theorem PK.pl_get {n:Nat}{o:LI}(h:PK n o){v:Nat}(hv:v<n)(hl:pl o v<o.length):o[pl o v]=(v:Int):=by
 unfold pl;exact List.getElem_idxOf _
theorem PK.pl_of {n:Nat}{o:LI}(h:PK n o){i v:Nat}(hi:i<o.length)(e:o[i]=(v:Int)):pl o v=i:=by
 have hv:v<n:=by have:=h.rng _ (List.getElem_mem hi);omega
 have hl:=h.pl_lt hv
 have h2:=h.pl_get hv (by rw[h.len];exact hl)
 have hl':pl o v<o.length:=by rw[h.len];exact hl
 have hnd:=List.pairwise_iff_getElem.1 h.nd
 rcases Nat.lt_trichotomy (pl o v) i with c|c|c
 ·exact absurd (h2.trans e.symm) (hnd _ _ hl' hi c)
 ·exact c
 ·exact absurd (h2.trans e.symm).symm (hnd _ _ hi hl' c)
theorem PK.at {n:Nat}{o:LI}(h:PK n o){i:Nat}(hi:i<o.length):∃v:Nat,o[i]=(v:Int)∧v<n∧pl o v=i:=by
 have:=h.rng _ (List.getElem_mem hi)
 have e:o[i]=((o[i].toNat:Nat):Int):=by omega
 exact⟨o[i].toNat,e,by omega,h.pl_of hi e⟩
structure Ris (n:Nat)(R:Int→Int→Prop)(rk:Int→Nat):Prop where
 up:∀x y,R x y→rk x<rk y
 lt:∀v:Nat,v<n→rk v<n
 tr:∀x y z,R x y→R y z→R x z
structure Ch (n:Nat)(R:Int→Int→Prop)(v:Int)(l:LI):Prop where
 hd:∃t,l=v::t
 pw:l.Pairwise R
 rng:∀x∈l,0≤x∧x<n
 mx:∀t:LI,(v::t).Pairwise R→(∀x∈t,0≤x∧x<n)→t.length+1≤l.length
theorem Ris.nodup {n:Nat}{R:Int→Int→Prop}{rk:Int→Nat}(h:Ris n R rk){l:LI}(hp:l.Pairwise R):l.Nodup:=
 List.Pairwise.imp (fun{x y} hxy e=>by subst e;have:=h.up x x hxy;omega) hp
theorem rng_len {n:Nat}{l:LI}(hd:l.Nodup)(hr:∀x∈l,0≤x∧x<n):l.length≤n:=by
 have:=Cm (m:=(List.range n).map Int.ofNat) hd (λx hx=>by
  have:=hr x hx
  exact List.mem_map.2 ⟨x.toNat,List.mem_range.2 (by omega),by show ((x.toNat:Nat):Int)=x;omega⟩)
 simpa using this
theorem Ch.len {n:Nat}{R:Int→Int→Prop}{rk:Int→Nat}(h:Ris n R rk){v:Int}{l:LI}(hc:Ch n R v l):l.length≤n:=rng_len (h.nodup hc.pw) hc.rng
def Mon (ks ks':List (Option LI)):Prop:=∀(v:Nat) (l:LI),ks[v]? =some (some l)→ks'[v]? =some (some l)
theorem Mon.refl (ks:List (Option LI)):Mon ks ks:=λ_ _ h=>h
structure CL (g:LL)(x:LI):Prop where
 nd:x.Nodup
 rng:∀z∈x,0≤z∧z<g.length
 cq:∀u w:Nat,(u:Int)∈x→(w:Int)∈x→u≠w→adj g u w
def Cn (ad:Nat→Nat→Prop)(S:Nat→Prop)(x y:Nat):Prop:=∀T:Nat→Prop,T x→(∀a b,T a→ad a b→S b→T b)→T y
section
variable {ad : Nat → Nat → Prop} {S S' : Nat → Prop} {x y z : Nat}
theorem Cn.refl :Cn ad S x x:=λ_ h _=>h
theorem Cn.step (h:Cn ad S x y)(ha:ad y z)(hz:S z):Cn ad S x z:=λT h1 h2=>h2 _ _ (h T h1 h2) ha hz
theorem Cn.trans (h:Cn ad S x y)(h':Cn ad S y z):Cn ad S x z:=λT h1 h2=>h' T (h T h1 h2) h2
theorem Cn.mono (hs:∀w,S w→S' w)(h:Cn ad S x y):Cn ad S' x y:=λT h1 h2=>h T h1 (λa b p q r=>h2 a b p q (hs _ r))
theorem Cn.mem (h:Cn ad S x y)(hx:S x):S y:=h S hx (λ_ _ _ _ h=>h)
theorem Cn.sym (hs:∀a b,ad a b→ad b a)(hx:S x)(h:Cn ad S x y):Cn ad S y x:=(h (λw=>S w∧Cn ad S w x) ⟨hx,Cn.refl⟩ (λa b ⟨p1,p2⟩ q r=>⟨r,(Cn.refl.step (hs _ _ q) p1).trans p2⟩)).2
end
def Joint (ad:Nat→Nat→Prop)(S:Nat→Prop):Prop:=∀x y,S x→S y→Cn ad S x y
abbrev Ad (F:LI)(a b:Nat):Prop:=nb F a b=true
abbrev El (s:Int)(x:Nat):Prop:=has s x=true
abbrev Mn (s:Int)(v x:Nat):Prop:=has s x=true∧x≠v
structure Parts (F:LI)(W:Nat→Prop)(l:LI):Prop where
 vs:∀s∈l,VS s
 ne:∀s∈l,∃v,El s v
 sub:∀s∈l,∀x,El s x→W x
 cn:∀s∈l,∀x y,El s x→(El s y↔Cn (Ad F) W x y)
 all:∀x,W x→∃s∈l,El s x
 dis:l.Pairwise λs t=>∀x,¬(El s x∧El t x)
theorem Parts.conn {F:LI}{W:Nat→Prop}{l:LI}(h:Parts F W l):l.length≤1↔Joint (Ad F) W:=by
 constructor
 ·intro hl x y hx hy
  obtain⟨s,hs,h1⟩:=h.all x hx
  obtain⟨t,ht,h2⟩:=h.all y hy
  obtain⟨i,hi,rfl⟩:=List.getElem_of_mem hs
  obtain⟨j,hj,rfl⟩:=List.getElem_of_mem ht
  obtain rfl:i=j:=by omega
  exact(h.cn _ hs x y h1).1 h2
 ·intro hc
  apply Classical.byContradiction
  intro hl
  have h0:0<l.length:=by omega
  have h1:1<l.length:=by omega
  obtain⟨x,hx⟩:=h.ne _ (List.getElem_mem h0)
  obtain⟨y,hy⟩:=h.ne _ (List.getElem_mem h1)
  have hcn:=hc x y (h.sub _ (List.getElem_mem h0) x hx) (h.sub _ (List.getElem_mem h1) y hy)
  have:=(h.cn _ (List.getElem_mem h0) x y hx).2 hcn
  exact(List.pairwise_iff_getElem.1 h.dis) 0 1 h0 h1 (by omega) y ⟨this,hy⟩
section
variable {F : LI} {n : Nat} (hn : n ≤ 16) (hF : FOk F n)
include hn hF
end
end Go.Sx

namespace Go.Sx
def Way (ad:Nat→Nat→Prop):List Nat→Prop
 |[]=>True
 |[_]=>True
 |a::b::l=>ad a b∧Way ad (b::l)
theorem Way.tail {ad:Nat→Nat→Prop}{a:Nat}{l:List Nat}(h:Way ad (a::l)):Way ad l:=by
 cases l with
 |nil=>trivial
 |cons b l=>exact h.2
structure Wy (ad:Nat→Nat→Prop)(H:Nat→Prop)(x y:Nat)(l:List Nat):Prop where
 len:2≤l.length
 fst:l[0]? =some x
 lst:l[l.length-1]? =some y
 way:Way ad l
 mid:∀i (h:i<l.length),0<i→i+1<l.length→H l[i]
structure Hole (ad:Nat→Nat→Prop)(c:List Nat):Prop where
 len:4≤c.length
 nd:c.Nodup
 step:∀i (h:i+1<c.length),ad c[i] c[i+1]
 close:ad (c[c.length-1]'(by omega)) (c[0]'(by omega))
 no:∀i j (_:i+1<j) (hj:j<c.length),¬(i=0∧j=c.length-1)→¬ad (c[i]'(by omega)) c[j]
def NoHole (ad:Nat→Nat→Prop)(X:Nat→Prop):Prop:=∀c,Hole ad c→¬∀x∈c,X x
section
variable {ad : Nat → Nat → Prop} (hs : ∀ a b, ad a b → ad b a) (hi : ∀ a, ¬ ad a a)
include hs hi
end
end Go.Sx

namespace Go.Sx
def ch (cs:LI)(i v:Nat):Bool:=has (cs.getD i 0) v
def Opn (cs:LI)(p:Int)(v:Nat):Prop:=(∃i,i<cs.length∧has p i=true∧ch cs i v=true)∧∃i,i<cs.length∧has p i=false∧ch cs i v=true
def Ft (cs:LI)(p:Int)(k:Nat):Prop:=k<cs.length∧has p k=false∧∀v,Opn cs p v→ch cs k v=true
inductive Ends (cs:LI):Int→Prop
 |all {p:Int}:(∀i,i<cs.length→has p i=true)→Ends cs p
 |go {p:Int} {k:Nat}:Ft cs p k→Ends cs (ior .u32 p (ishl .u32 1 (k:Int)))→Ends cs p
def Goes (cs:LI):Int→LI→Prop
 |p,[]=>∀i,i<cs.length→has p i=true
 |p,x::l=>∃k:Nat,x=(k:Int)∧Ft cs p k∧Goes cs (ior .u32 p (ishl .u32 1 (k:Int))) l
section
variable {cs : LI} (hvs : ∀ s ∈ cs, VS s) (hm : cs.length ≤ 16)
include hvs hm
theorem Ft.in {p:Int}{k:Nat}(hp:In cs.length p)(h:Ft cs p k):In cs.length (ior .u32 p (ishl .u32 1 (k:Int)))∧∀v,has (ior .u32 p (ishl .u32 1 (k:Int))) v=(has p v||decide (v=k)):=by
 have hk:=h.1
 have he:∀v,has (ior .u32 p (ishl .u32 1 (k:Int))) v=(has p v||decide (v=k)):=λv=>by
  rw[CB hp.1 (VS.ishl _ _),BN (by omega)]
 refine⟨⟨VS.ior _ _,λv hv=> ?_⟩,he⟩
 rw[he,Bool.or_eq_true,decide_eq_true_eq] at hv
 rcases hv with hv|rfl
 ·exact hp.2 v hv
 ·exact hk
end
end Go.Sx

namespace Go.Sx
theorem Goes.mid {cs:LI}{v:Nat}:∀{l1:LI} {p:Int} {x:Nat} {l2:LI},cs.length≤16→In cs.length p→Goes cs p (l1++(x:Int)::l2)→((∃i,i<cs.length∧has p i=true∧ch cs i v=true)∨∃y:Nat,(y:Int)∈l1∧ch cs y v=true)→(∃z:Nat,(z:Int)∈l2∧ch cs z v=true)→ch cs x v=true
 |[],p,x,l2,hm,hp,⟨k,e,hF,hG⟩,h1,⟨z,hz,hzv⟩=>by
  obtain rfl:k=x:=by omega
  refine hF.2.2 v ⟨h1.elim id (fun⟨y,hy,_⟩=>by simp at hy),?_⟩
  have:∀(l:LI) (q:Int),In cs.length q→Goes cs q l→(z:Int)∈l→z<cs.length∧has q z=false:=by
   intro l
   induction l with
   |nil=>intro q _ _ h;simp at h
   |cons y l ih=>
    rintro q hq ⟨k',e',hF',hG'⟩ hzl
    rcases List.mem_cons.1 hzl with h|h
    ·obtain rfl:k'=z:=by omega
     exact⟨hF'.1,hF'.2.1⟩
    ·have hk':=hF'.1
     have he:∀w,has (ior .u32 q (ishl .u32 1 (k':Int))) w=(has q w||decide (w=k')):=λw=>by rw[CB hq.1 (VS.ishl _ _),BN (by omega)]
     have hin:In cs.length (ior .u32 q (ishl .u32 1 (k':Int))):=⟨VS.ior _ _,λw hw=>by
      rw[he,Bool.or_eq_true,decide_eq_true_eq] at hw
      rcases hw with hw|rfl
      ·exact hq.2 w hw
      ·exact hk'⟩
     obtain⟨a,b⟩:=ih _ hin hG' h
     rw[he,Bool.or_eq_false_iff] at b
     exact⟨a,b.1⟩
  obtain⟨h3,h4⟩:=this ((k:Int)::l2) p hp ⟨k,rfl,hF,hG⟩ (List.mem_cons_of_mem _ hz)
  exact⟨z,h3,h4,hzv⟩
 |y::l1,p,x,l2,hm,hp,⟨k,e,hF,hG⟩,h1,h2=>by
  subst e
  have hk:=hF.1
  have he:∀w,has (ior .u32 p (ishl .u32 1 (k:Int))) w=(has p w||decide (w=k)):=λw=>by rw[CB hp.1 (VS.ishl _ _),BN (by omega)]
  refine Goes.mid (l1:=l1) hm ⟨VS.ior _ _,λw hw=> ?_⟩ hG ?_ h2
  ·rw[he,Bool.or_eq_true,decide_eq_true_eq] at hw
   rcases hw with hw|rfl
   ·exact hp.2 w hw
   ·exact hk
  ·rcases h1 with⟨i,h3,h4,h5⟩|⟨i,h3,h5⟩
   ·exact .inl ⟨i,h3,by rw[he,h4];rfl,h5⟩
   ·rcases List.mem_cons.1 h3 with h|h
    ·obtain rfl:i=k:=by omega
     exact .inl ⟨i,hk,by rw[he];simp,h5⟩
    ·exact .inr ⟨i,h,h5⟩
end Go.Sx
