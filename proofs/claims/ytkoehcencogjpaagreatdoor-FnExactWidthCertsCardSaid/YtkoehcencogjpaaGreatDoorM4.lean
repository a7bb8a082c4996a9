/- Parts. -/
import Derived.Test.YtkoehcencogjpaaGreatDoorM3
import Derived.Test.YtkoehcencogjpaaGreatDoorProg
import Derived.KernelRfl
set_option linter.unusedVariables false
set_option linter.unusedSimpArgs false
set_option maxRecDepth 100000
namespace Go.Proofs.YtkoehcencogjpaaGreatDoor
open Go Go.Sx
open Go.Proofs.Tryz Go.Proofs.YtkoehcencogjpaaGreatDoor.Tryz IntKind
variable {W w : World} {G : GH} {H : List Itm}
theorem T56 :SlT prog 56 22 1 24 sn:=⟨underlying56,Tryz.t22,by kernel_rfl,by kernel_rfl,by kernel_rfl,by kernel_rfl⟩
theorem Wk.V0 {aa ab:Value}{ac ad:LL}{x1:Int}(m:Mem W G w (H))(ae:R2 G aa ac)(af:R2 G ab ad){y:(LI)}(hd:D.V0 ac ad x1=some y):
  Calls prog 113 #[(.agg #[aa,ab]),(iv x1)] w (Res W G H (λG' Ho v=>∃r0:Value,∃i0:Itm,Ho=[i0]∧r0=v∧Ow R0 2 G' i0 r0 y)):=by
 refine Ar (args:=[(.agg #[aa,ab]),(iv x1)]) (N:=27) [.tmp 4] func113 Z Z (lb Z) Z λa f=> ?_
 unfold D.V0 at hd
 refine Ae ?_
 refine Bi (cs:=[aa,ab]) m f Z Z Z λag w a m f=>Ac f Z λa f=>Ay ?_
 refine AP (R:=R0) (xs:=([]:LI)) (RI.one _) m T26 f Z Z Z (by decide) (All2.nil _) λah ai w a m aj f=>Ac f Z λa f=>Aa (Ag (Ae ?_))
 refine Ac f Z λa f=>Aa ?_
 have⟨ak,al,hd⟩:=bind_some hd
 refine AH (λa w=>∃am:LI,am=ak∧∃(an:GH) (ao:Value) (ap:Itm),GLe G an∧Fr a 27 [(5,ao)]∧Mem W an w (ap::H)∧Ow R0 2 an ap ao am) ?_ ?_
 ·refine Ak ?_
  have m:=m.fr 1
  refine AC (λaq a w=>∃ar:LI,∃au:Int,(ar,au)=aq∧∃(av:GH) (aw:Value) (ax:Itm),GLe G av∧Fr a 27 [(1,(iv x1)),(2,(pb ag)),(5,aw),(6,(iv au))]∧Mem W av w (ib ag 41 [aa,ab]::ax::H)∧Ow R0 2 av ax aw ar) al ⟨_,_,Z,_,ai,ah,gr,f.k Z,m,aj⟩ ?_
  clear al f m
  rintro aq ay az aA a w ⟨ar,au,rfl,av,aw,ax,aB,f,m,aC⟩
  have ae:=rd2 aB ae
  refine Ag (Ae ?_)
  refine Ab f Z λa f=>Bu underlying41 Z sizeOf22 f Z λa f=>AJ 0 0 m Bb f Z Z Z Z λa f=>AO underlying22 f Z Z ae λa f=>Ai f Z Z AE λa f=>Aa ?_
  rcases Af az with⟨aD,az⟩|⟨aD,az⟩
  ·refine Al f Z aD ?_
   refine Am ?_
   refine Ag (Ak (Ae ?_))
   refine Bu underlying41 Z sizeOf22 f Z λa f=>AJ 0 0 m Bb f Z Z Z Z λa f=>Ab f Z λa f=> ?_
   have⟨aE,aF,az⟩:=bind_some az
   refine A2 T22 f Z Z Z ae aF λaG aH a aI aJ f=>Ax m AT f Z Z aI λa f=>Ab f Z λa f=> ?_
   have⟨aK,aL,az⟩:=bind_some az
   refine A6 f Z call39 (Wk.c m aJ aL) λaM w aN m a f=> ?_
   have aC:=od1 aN aC
   refine Aa ?_
   rcases Af az with⟨aO,az⟩|⟨aO,az⟩
   ·refine Al f Z aO ?_
    refine Aj ?_
    refine Ab f Z λa f=>Ab f Z λa f=>AP (R:=R0) (xs:=([au]:LI)) (RI.one _) m T26 f Z Z Z (by decide) (All2.cons Z (All2.nil _)) λaP aQ w a m aR f=> ?_
    have⟨aS,aT,az⟩:=bind_some az
    refine AW (RI.one _) 2 m aC Z T26 Z (by decide) f Z Z Z (Ow.src (j:=0) aR m Z) aT λaU aV w a m aW f=>Ac f Z λa f=>Aa (Aj ?_)
    refine Ab f Z λa f=>Ai f Z Z Aw λa f=>Ac f Z λa f=>Aa ?_
    have m:=m.fr 2
    have m:=m.fr 2
    have m:=m.eraseAt 2
    obtain rfl:=sj az
    exact⟨_,Z,_,_,Z,_,aV,aU,(gt aB aN),f.k Z,m,aW⟩
   ·refine Ah f Z aO ?_
    refine Am ?_
    refine Aj ?_
    refine Ab f Z λa f=>Ai f Z Z Aw λa f=>Ac f Z λa f=>Aa ?_
    obtain rfl:=sj az
    exact⟨_,Z,_,_,Z,_,aw,ax,(gt aB aN),f.k Z,m,aC⟩
  ·refine Ah f Z aD ?_
   refine AA Z ?_
   have m:=m.fr 1
   have m:=m.eraseAt 1
   obtain rfl:=sj az
   obtain rfl:=aA _ rfl
   exact⟨_,Z,_,aw,ax,aB,f.k Z,m,aC⟩
 ·rintro a w ⟨am,rfl,an,ao,ap,aX,f,m,aY⟩
  refine Ae ?_
  refine Ab f Z λa f=>Ac f Z λa f=>Aa ?_
  refine Aq ?_
  obtain rfl:=sj hd
  exact⟨[ao],f.g Z,f.d,_,[ap],aX,m,_,_,Z,Z,aY⟩
theorem Wk.i1 {aa ab ac:Value}{ad ae af:LL}(m:Mem W G w (H))(ag:R2 G aa ad)(ah:R2 G ab ae)(ai:R2 G ac af){y:Bool}(hd:D.i1 ad ae af=some y):
  Calls prog 70 #[(.agg #[aa]),(.agg #[ab,ac])] w (Res W G H (λ_ Ho v=>Ho=[]∧v=(.bool y))):=by
 refine Ar (args:=[(.agg #[aa]),(.agg #[ab,ac])]) (N:=69) [.tmp 4] func70 Z Z (lb Z) Z λa f=> ?_
 unfold D.i1 at hd
 refine Ae ?_
 refine Bi (cs:=[aa]) m f Z Z Z λaj w a m f=>Bi (cs:=[ab,ac]) m f Z Z Z λak w a m f=>Ac f Z λa f=>Aa (Ag (Ae ?_))
 refine AB 1 0 (ds:=[aa]) m Bj f Z Z Z Z Z λa f=> ?_
 have⟨al,am,hd⟩:=bind_some hd
 refine A6 f Z call30 (Wk.I m ag am) λan w ao m a f=> ?_
 have ag:=rd2 ao ag
 have ah:=rd2 ao ah
 have ai:=rd2 ao ai
 refine l_o f (Bv (f.e Z)) λa f=>Ab f Z λa f=> ?_
 have⟨ap,aq,hd⟩:=bind_some hd
 refine BH 4 (λa w=>∃ar,GLe an ar∧Mem W ar w (ib ak 41 [ab,ac]::ib aj 31 [aa]::H)∧Fr a 69 [(0,(.agg #[aa])),(1,(.agg #[ab,ac])),(2,(pb aj)),(3,(pb ak)),(10,(.agg #[aa])),(11,(.bool al)),(12,(.bool (!al))),(13,(.bool (!al))),(17,(.bool ap))]) ?_ ?_
 ·rcases Af aq with⟨au,aq⟩|⟨au,aq⟩
  ·refine AG f au λa f=> ?_
   refine AG f au λa f=>AG f au λa f=>l_o f (A4 (f.e Z) au (f.e Z)) λa f=> ?_
   obtain rfl:=sj aq
   exact⟨_,gr,m,f.k Z⟩
  ·refine AF f au ?_
   refine AB 0 0 (ds:=[ab,ac]) m Ck f Z Z Z Z Z λa f=>AF f au ?_
   have⟨av,aw,aq⟩:=bind_some aq
   refine A6 f Z call110 (Wk.k2 m ah ai aw) λax w ay m a f=>AF f au ?_
   refine l_o f (Bv (f.e Z)) λa f=>l_o f (A5 (f.e Z) au (f.e Z)) λa f=> ?_
   obtain rfl:=sj aq
   exact⟨_,ay,m,f.k Z⟩
 ·rintro a w ⟨ar,az,m,f⟩
  have ag:=rd2 az ag
  have ah:=rd2 az ah
  have ai:=rd2 az ai
  refine Aa ?_
  rcases Af hd with⟨aA,hd⟩|⟨aA,hd⟩
  ·refine Al f Z aA ?_
   refine Ae ?_
   refine Ac f Z λa f=>Aa ?_
   refine Aq ?_
   have m:Mem W ar w H:=Mem.drop (H':=[ib ak 41 [ab,ac],ib aj 31 [aa]]) m
   obtain rfl:=sj hd
   exact⟨[(.bool false)],f.g Z,f.d,_,[],(gt ao az),m,Z,Z⟩
  ·refine Ah f Z aA ?_
   refine Am ?_
   refine Ag (Ae ?_)
   refine Ac f Z λa f=>Aa ?_
   have⟨aB,aC,hd⟩:=bind_some hd
   refine AH (λa w=>∃q_73':Unit,aB= .inl q_73'∧∃(aD:GH),GLe ar aD∧Fr a 69 [(2,(pb aj)),(3,(pb ak))]∧Mem W aD w (ib aj 31 [aa]::ib ak 41 [ab,ac]::H)) ?_ ?_
   ·refine Ak ?_
    have m:=m.fr 1
    refine AC (λaE a w=>∃aF:Int,aF=aE∧∃(aG:GH),GLe ar aG∧Fr a 69 [(2,(pb aj)),(3,(pb ak)),(5,(iv aF))]∧Mem W aG w (ib aj 31 [aa]::ib ak 41 [ab,ac]::H)) aC ⟨_,Z,_,gr,f.k Z,m⟩ ?_
    clear aC f m
    rintro aE aH aI aJ a w ⟨aF,rfl,aG,aK,f,m⟩
    have ag:=rd2 aK ag
    have ah:=rd2 aK ah
    refine Ag (Ae ?_)
    refine Ab f Z λa f=>Bu underlying41 Z sizeOf22 f Z λa f=>AJ 1 0 m Bb f Z Z Z Z λa f=>AO underlying22 f Z Z ah λa f=>Ai f Z Z AE λa f=>Aa ?_
    rcases Af aI with⟨aL,aI⟩|⟨aL,aI⟩
    ·refine Al f Z aL ?_
     refine Am ?_
     refine Ag (Ak (Ag ?_))
     refine A3 9 AM (by kernel_rfl) m ?_
     refine BW 0 9 underlying41 Z sizeOf22 Z f Z λa f=>BK 1 9 1 Bb Z Z Z f Z λa f=>Ao 2 9 Z f Z λa f=> ?_
     have⟨aM,aN,aI⟩:=bind_some aI
     refine BJ 3 9 T22 ah aN Z f Z Z λaO aP a aQ aR f=>BI 4 9 AT aQ Z f Z λa f=>BM (i:=5) (ds:=[aa]) 9 0 Bj Z Z Z Z (by kernel_rfl) Z f Z Z Z λa f=> ?_
     have⟨aS,aT,aI⟩:=bind_some aI
     refine BX (i:=6) 9 Z (by kernel_rfl) Z f Z Z Z call31 (λ_ _ w aU m=>Wk.a m (rd2 aU ag) aT) λa f=> ?_
     have⟨aV,aW,aI⟩:=bind_some aI
     refine BX (i:=7) 9 Z (by kernel_rfl) Z f Z Z Z call62 (λ_ _ w aX m=>Wk.J m (rd1 aX aR) aW) λa f=>q_p 8 9 Z f (λ_=>Bv (f.e Z)) λa f=>AU λaY w aZ m=>Aa ?_
     rcases Af aI with⟨a0,aI⟩|⟨a0,aI⟩
     ·refine Al f Z a0 ?_
      refine Ae ?_
      refine Ac f Z λa f=>Aa ?_
      refine Aq ?_
      have m:Mem W aY w H:=Mem.drop (H':=[ib aj 31 [aa],ib ak 41 [ab,ac]]) m
      obtain rfl:=sj aI
      obtain rfl:=aJ _ rfl
      obtain rfl:=sj hd
      exact⟨[(.bool false)],f.g Z,f.d,_,[],(gt ao (gt az (gt aK aZ))),m,Z,Z⟩
     ·refine Ah f Z a0 ?_
      refine Am ?_
      refine Aj ?_
      refine Ab f Z λa f=>Ai f Z Z Aw λa f=>Ac f Z λa f=>Aa ?_
      obtain rfl:=sj aI
      exact⟨_,Z,_,Z,_,(gt aK aZ),f.k Z,m⟩
    ·refine Ah f Z aL ?_
     refine AA Z ?_
     obtain rfl:=sj aI
     obtain rfl:=aJ _ rfl
     exact⟨_,Z,_,aK,f.k Z,m⟩
   ·rintro a w ⟨_,rfl,aD,a1,f,m⟩
    have ag:=rd2 a1 ag
    have ah:=rd2 a1 ah
    have ai:=rd2 a1 ai
    refine Ae ?_
    refine AB 0 0 (ds:=[aa]) m Bj f Z Z Z Z Z λa f=> ?_
    have⟨a2,a3,hd⟩:=bind_some hd
    refine AL f Z call111 (Wk.o0 m ag a3) λa4 a5 a6 w a7 m a8 a f=> ?_
    obtain⟨a9,ba,rfl,rfl,bb⟩:=a8
    have ag:=rd2 a7 ag
    have ah:=rd2 a7 ah
    have ai:=rd2 a7 ai
    refine Ac f Z λa f=>Aa (Ag (Ae ?_))
    refine Ac f Z λa f=>Aa ?_
    have⟨bc,bd,hd⟩:=bind_some hd
    refine AH (λa w=>∃q_155':Unit,bc= .inl q_155'∧∃(be:GH),GLe a5 be∧Fr a 69 [(2,(pb aj)),(3,(pb ak))]∧Mem W be w (ib aj 31 [aa]::ib ak 41 [ab,ac]::H)) ?_ ?_
    ·refine Ak ?_
     have m:=m.fr 2
     have m:=m.fr 2
     refine AC (λbf a w=>∃bg:Int,bg=bf∧∃(bh:GH),GLe a5 bh∧Fr a 69 [(2,(pb aj)),(3,(pb ak)),(6,a9),(7,(iv bg))]∧Mem W bh w (ib aj 31 [aa]::ib ak 41 [ab,ac]::ba::H)) bd ⟨_,Z,_,gr,f.k Z,m⟩ ?_
     clear bd f m
     rintro bf bi bj bk a w ⟨bg,rfl,bh,bl,f,m⟩
     have ah:=rd2 bl ah
     have ai:=rd2 bl ai
     have bb:=Ow.mono (RSl.mono (RI.mono _)) bl bb
     refine Ag (Ae ?_)
     refine Ab f Z λa f=>Ab f Z λa f=>BE 2 m bb Z underlying22 f Z Z λa f=>Ai f Z Z AE λa f=>Aa ?_
     rcases Af bj with⟨bm,bj⟩|⟨bm,bj⟩
     ·refine Al f Z bm ?_
      refine Am ?_
      refine Ag (Ak (Ag ?_))
      refine A3 7 AM (by kernel_rfl) m ?_
      refine BM (i:=0) (ds:=[ab,ac]) 7 1 Ck Z Z Z Z (by kernel_rfl) Z f Z Z Z λa f=>Ao 1 7 Z f Z λa f=>Ao 2 7 Z f Z λa f=> ?_
      have⟨bn,bo,bj⟩:=bind_some bj
      refine A8 3 7 2 m bb T22 bo Z f Z Z λbp a bq f=>Bo 4 7 2 bb AT bq bo Z f Z λbr a bs f=> ?_
      have⟨bt,bu,bj⟩:=bind_some bj
      refine BX (i:=5) 7 Z (by kernel_rfl) Z f Z Z Z call112 (λ_ _ w bv m=>Wk.X0 m (rd2 bv ah) (rd2 bv ai) (rd1 bv bs) bu) λa f=>q_p 6 7 Z f (λ_=>Bv (f.e Z)) λa f=>AU λbw w bx m=>Aa ?_
      rcases Af bj with⟨bz,bj⟩|⟨bz,bj⟩
      ·refine Al f Z bz ?_
       refine Ae ?_
       refine Ac f Z λa f=>Aa ?_
       refine Aq ?_
       have m:Mem W bw w H:=Mem.drop (H':=[ib aj 31 [aa],ib ak 41 [ab,ac],ba]) m
       obtain rfl:=sj bj
       obtain rfl:=bk _ rfl
       obtain rfl:=sj hd
       exact⟨[(.bool false)],f.g Z,f.d,_,[],(gt ao (gt az (gt a1 (gt a7 (gt bl bx))))),m,Z,Z⟩
      ·refine Ah f Z bz ?_
       refine Am ?_
       refine Aj ?_
       refine Ab f Z λa f=>Ai f Z Z Aw λa f=>Ac f Z λa f=>Aa ?_
       obtain rfl:=sj bj
       exact⟨_,Z,_,Z,_,(gt bl bx),f.k Z,m⟩
     ·refine Ah f Z bm ?_
      refine AA Z ?_
      have m:=m.eraseAt 2
      obtain rfl:=sj bj
      obtain rfl:=bk _ rfl
      exact⟨_,Z,_,bl,f.k Z,m⟩
    ·rintro a w ⟨_,rfl,be,bA,f,m⟩
     have ag:=rd2 bA ag
     have ah:=rd2 bA ah
     have ai:=rd2 bA ai
     refine Ag (Ae ?_)
     refine Ac f Z λa f=>Aa ?_
     have⟨bB,bC,hd⟩:=bind_some hd
     refine AH (λa w=>∃q_304':Unit,bB= .inl q_304'∧∃(bD:GH),GLe be bD∧Fr a 69 []∧Mem W bD w (H)) ?_ ?_
     ·refine Ak ?_
      refine AC (λbE a w=>∃bF:Int,bF=bE∧∃(bG:GH),GLe be bG∧Fr a 69 [(2,(pb aj)),(3,(pb ak)),(8,(iv bF))]∧Mem W bG w (ib aj 31 [aa]::ib ak 41 [ab,ac]::H)) bC ⟨_,Z,_,gr,f.k Z,m⟩ ?_
      clear bC f m
      rintro bE bH bI bJ a w ⟨bF,rfl,bG,bK,f,m⟩
      have ag:=rd2 bK ag
      have ah:=rd2 bK ah
      have ai:=rd2 bK ai
      refine Ag (Ae ?_)
      refine Ab f Z λa f=>AB 0 0 (ds:=[aa]) m Bj f Z Z Z Z Z λa f=> ?_
      have⟨bL,bM,bI⟩:=bind_some bI
      refine A6 f Z call31 (Wk.a m ag bM) λbN w bO m a f=> ?_
      have ah:=rd2 bO ah
      have ai:=rd2 bO ai
      refine Ai f Z Z AE λa f=>Aa ?_
      rcases Af bI with⟨bP,bI⟩|⟨bP,bI⟩
      ·refine Al f Z bP ?_
       refine Am ?_
       refine Ag (Ak (Ae ?_))
       refine AB 1 0 (ds:=[ab,ac]) m Ck f Z Z Z Z Z λa f=>Ab f Z λa f=> ?_
       have⟨bQ,bR,bI⟩:=bind_some bI
       refine AL f Z call113 (Wk.V0 m ah ai bR) λbS bT bU w bV m bW a f=> ?_
       obtain⟨bX,bY,rfl,rfl,bZ⟩:=bW
       have ah:=rd2 bV ah
       have ai:=rd2 bV ai
       refine Ac f Z λa f=>Ay ?_
       refine Ab f Z λa f=>BE 0 m bZ Z underlying26 f Z Z λa f=>Ai f Z Z BS λa f=>Ab f Z λa f=> ?_
       have⟨b0,b1,bI⟩:=bind_some bI
       refine BH 7 (λa w=>∃b2,GLe bT b2∧Mem W b2 w (bY::ib aj 31 [aa]::ib ak 41 [ab,ac]::H)∧Fr a 69 [(2,(pb aj)),(3,(pb ak)),(8,(iv bF)),(9,bX),(58,bX),(59,(iv (bQ.length:Int))),(60,(.bool ((bQ.length:Int)==0))),(61,(.bool ((bQ.length:Int)==0))),(68,(.bool b0))]) ?_ ?_
       ·rcases Af b1 with⟨b3,b1⟩|⟨b3,b1⟩
        ·refine AG f b3 λa f=> ?_
         refine AG f b3 λa f=>AG f b3 λa f=>AG f b3 λa f=>AG f b3 λa f=>AG f b3 λa f=>l_o f (A4 (f.e Z) b3 (f.e Z)) λa f=> ?_
         obtain rfl:=sj b1
         exact⟨_,gr,m,f.k Z⟩
        ·refine AF f b3 ?_
         refine AB 2 0 (ds:=[ab,ac]) m Ck f Z Z Z Z Z λa f=>AF f b3 ?_
         refine Ab f Z λa f=>AF f b3 ?_
         have⟨b4,b5,b1⟩:=bind_some b1
         refine AL f Z call114 (Ow.lendCall (RI.mono _) 0 bZ m Z (λb6 b7 m b8=>Wk.U m (rd2 b7 ah) (rd2 b7 ai) b8 b5) (λ_ _ _ _ h=>h)) λb9 ca cb w cc m cd a f=> ?_
         obtain⟨rfl,rfl⟩:=cd
         have bZ:=od1 cc bZ
         refine AF f b3 ?_
         refine Ab f Z λa f=>AF f b3 ?_
         refine BE 0 m bZ Z underlying26 f Z Z λa f=>AF f b3 ?_
         refine Ai f Z Z B8 λa f=>l_o f (A5 (f.e Z) b3 (f.e Z)) λa f=> ?_
         obtain rfl:=sj b1
         exact⟨_,cc,m,f.k Z⟩
       ·rintro a w ⟨b2,ce,m,f⟩
        refine Aa ?_
        rcases Af bI with⟨cf,bI⟩|⟨cf,bI⟩
        ·refine Al f Z cf ?_
         refine Ae ?_
         refine Ac f Z λa f=>Aa ?_
         refine Aq ?_
         have m:Mem W b2 w H:=Mem.drop (H':=[bY,ib aj 31 [aa],ib ak 41 [ab,ac]]) m
         obtain rfl:=sj bI
         obtain rfl:=bJ _ rfl
         obtain rfl:=sj hd
         exact⟨[(.bool false)],f.g Z,f.d,_,[],(gt ao (gt az (gt a1 (gt a7 (gt bA (gt bK (gt bO (gt bV ce)))))))),m,Z,Z⟩
        ·refine Ah f Z cf ?_
         refine Am ?_
         refine Aj ?_
         refine Ab f Z λa f=>Ai f Z Z Aw λa f=>Ac f Z λa f=>Aa ?_
         have m:=m.fr 2
         have m:=m.fr 2
         have m:=m.eraseAt 2
         obtain rfl:=sj bI
         exact⟨_,Z,_,Z,_,(gt bK (gt bO (gt bV ce))),f.k Z,m⟩
      ·refine Ah f Z bP ?_
       refine AA Z ?_
       have m:Mem W bN w H:=Mem.drop (H':=[ib aj 31 [aa],ib ak 41 [ab,ac]]) m
       obtain rfl:=sj bI
       obtain rfl:=bJ _ rfl
       exact⟨_,Z,_,(gt bK bO),f.weak trivial,m⟩
     ·rintro a w ⟨_,rfl,bD,cg,f,m⟩
      refine Ae ?_
      refine Ac f Z λa f=>Aa ?_
      refine Aq ?_
      obtain rfl:=sj hd
      exact⟨[(.bool true)],f.g Z,f.d,_,[],(gt ao (gt az (gt a1 (gt a7 (gt bA cg))))),m,Z,Z⟩
theorem Wk.U0 {aa ab:Value}{ac ad:LL}(m:Mem W G w (H))(ae:R2 G aa ac)(af:R2 G ab ad){y:(LL)×(LL)}(hd:D.U0 ac ad=some y):
  Calls prog 71 #[(.agg #[aa,ab])] w (Res W G H (λG' Ho v=>∃r0:Value,∃i0:Itm,∃r2:Value,∃i2:Itm,Ho=[i0,i2]∧v=(.agg #[r0,r2])∧Ow R1 26 G' i0 r0 y.1∧Ow R1 26 G' i2 r2 y.2)):=by
 refine Ar (args:=[(.agg #[aa,ab])]) (N:=51) [.cell 2 41] func71 Z Z (lb Z) Z λa f=> ?_
 unfold D.U0 at hd
 refine Ae ?_
 refine Bi (cs:=[aa,ab]) m f Z Z Z λag w a m f=>Bm (cs:=[sn,sn]) zeroValue41 m f Z Z λah w a m f=>Ay ?_
 have ai:∀w,(Instr.build 41 #[]).run prog w= .ok (.agg #[sn,sn]) w:=by intro w;simp[Instr.build,Instr.fill,Bz,Bn,Bc,Bk,A7,Bx]
 refine BG f Z Z ai λa f=>Bm (cs:=[sn,sn]) zeroValue41 m f Z Z λaj w a m f=>Az 0 0 (ds:=[sn,sn]) m sizeOf41 f Z Z Z (An Z (An Z AK)) Z (lb Z) Z λw m=>Aa (Ag (Ae ?_))
 refine Ac f Z λa f=>Aa ?_
 obtain⟨ak,m,al⟩:=Ow.nil R1 26 m
 have⟨am,an,hd⟩:=bind_some hd
 refine AH (λa w=>∃ao:LL,ao=am∧∃(ap:GH) (aq:Value) (ar:Itm),GLe G ap∧Fr a 51 [(1,(pb ag)),(2,(pb ah)),(3,(pb aj))]∧Mem W ap w (ib ag 41 [aa,ab]::ib ah 41 [sn,sn]::ib aj 41 [aq,sn]::ar::H)∧Ow R1 26 ap ar aq ao) ?_ ?_
 ·refine Ak ?_
  have m:=m.fr 1
  have m:=m.fr 2
  have m:Mem W G w (ib ag 41 [aa,ab]::ib ah 41 [sn,sn]::ib aj 41 [sn,sn]::ak::H):=m.fr 3
  refine AC (λau a w=>∃av:Int,∃aw:LL,(av,aw)=au∧∃(ax:GH) (ay:Value) (az:Itm),GLe G ax∧Fr a 51 [(1,(pb ag)),(2,(pb ah)),(3,(pb aj)),(4,(iv av))]∧Mem W ax w (ib ag 41 [aa,ab]::ib ah 41 [sn,sn]::ib aj 41 [ay,sn]::az::H)∧Ow R1 26 ax az ay aw) an ⟨_,_,Z,_,sn,ak,gr,f.k Z,m,al⟩ ?_
  clear an f m
  rintro au aA aB aC a w ⟨av,aw,rfl,ax,ay,az,aD,f,m,aE⟩
  have ae:=rd2 aD ae
  refine Ag (Ae ?_)
  refine Ab f Z λa f=>Bu underlying41 Z sizeOf22 f Z λa f=>AJ 0 0 m Bb f Z Z Z Z λa f=>AO underlying22 f Z Z ae λa f=>Ai f Z Z AE λa f=>Aa ?_
  rcases Af aB with⟨aF,aB⟩|⟨aF,aB⟩
  ·refine Al f Z aF ?_
   refine Am ?_
   refine Ag (Ak ?_)
   refine A3 9 AM (by kernel_rfl) m ?_
   refine BW 0 9 underlying41 Z sizeOf22 Z f Z λa f=>BK 1 9 2 Bb Z Z Z f Z λa f=>BW 2 9 underlying41 Z sizeOf22 Z f Z λa f=>BK 3 9 0 Bb Z Z Z f Z λa f=>Ao 4 9 Z f Z λa f=> ?_
   have⟨aG,aH,aB⟩:=bind_some aB
   refine BJ 5 9 T22 ae aH Z f Z Z λaI aJ a aK aL f=>BI 6 9 AT aK Z f Z λa f=>Bp 7 Z λaM w aN m aO aO=> ?_
   have aL:=rd1 aN aL
   have aE:=Ow.mono (RSl.mono (RI.mono _)) aN aE
   have⟨aP,aQ,aB⟩:=bind_some aB
   refine AL f Z call43 (Wk.e m aL aQ) λaR aS aT w aU m aV a f=> ?_
   obtain⟨aW,aX,rfl,rfl,aY⟩:=aV
   have aE:=Ow.mono (RSl.mono (RI.mono _)) aU aE
   refine Aa ?_
   refine aO aS [aX] _ _ aU m ?_
   refine Bp 8 Z λaZ w a0 m a1 a1=> ?_
   have aY:=od1 a0 aY
   have aE:=Ow.mono (RSl.mono (RI.mono _)) a0 aE
   obtain⟨a2,a3,m,a4⟩:=Ow.stamp (RI.mono _) aY m
   have aE:=Ow.mono (RSl.mono (RI.mono _)) a3 aE
   refine AP (R:=R1) (xs:=([aP]:LL)) (RSl.one _) m T22 f Z Z Z (by decide) (All2.cons a4 (All2.nil _)) λa5 a6 w a m a7 f=>Aa ?_
   refine a1 a2 [a5] _ _ a3 m ?_
   refine AU λa8 w a9 m=> ?_
   have a7:=Ow.mono (RSl.mono (RI.mono _)) a9 a7
   have aE:=Ow.mono (RSl.mono (RI.mono _)) a9 aE
   have⟨ba,bb,aB⟩:=bind_some aB
   refine AW (RSl.one _) 4 m aE Z T22 Z (by decide) f Z Z Z (Ow.src (j:=0) a7 m Z) bb λbc bd w a m be f=>Bu underlying41 Z sizeOf22 f Z λa f=>Az 3 0 (ds:=[bd]) m sizeOf22 f Z Z (Ow.cells 4 m be Z) (An (Ow.one1 4 m be Z) AK) Z (lb Z) Z λw m=>Aa (Aj ?_)
   refine Ab f Z λa f=>Ai f Z Z Aw λa f=>Ac f Z λa f=>Aa ?_
   have m:=m.fr 4
   have m:=m.fr 4
   have m:Mem W a8 w (ib ah 41 [sn,sn]::ib aj 41 [bd,sn]::bc::a5::ib ag 41 [aa,ab]::H):=m.fr 4
   have m:=m.fr 4
   have m:Mem W a8 w (ib ag 41 [aa,ab]::ib ah 41 [sn,sn]::ib aj 41 [bd,sn]::bc::H):=m.eraseAt 4
   obtain rfl:=sj aB
   exact⟨_,Z,_,_,Z,_,bd,bc,(gt aD (gt aN (gt aU (gt a0 (gt a3 a9))))),f.k Z,m,be⟩
  ·refine Ah f Z aF ?_
   refine AA Z ?_
   obtain rfl:=sj aB
   obtain rfl:=aC _ rfl
   exact⟨_,Z,_,ay,az,aD,f.k Z,m,aE⟩
 ·rintro a w ⟨ao,rfl,ap,aq,ar,bf,f,m,bg⟩
  have af:=rd2 bf af
  refine Ag (Ae ?_)
  refine Ac f Z λa f=>Aa ?_
  obtain⟨bh,m,bi⟩:=Ow.nil R1 26 m
  have⟨bj,bk,hd⟩:=bind_some hd
  refine AH (λa w=>∃bl:LL,bl=bj∧∃(bm:GH) (bn:Value) (bo:Itm),GLe ap bm∧Fr a 51 [(2,(pb ah)),(3,(pb aj))]∧Mem W bm w (ib ah 41 [sn,sn]::ib aj 41 [aq,bn]::ar::bo::H)∧Ow R1 26 bm bo bn bl) ?_ ?_
  ·refine Ak ?_
   have m:=m.fr 4
   have m:=m.fr 4
   have m:Mem W ap w (ib ah 41 [sn,sn]::ib aj 41 [aq,sn]::ar::bh::ib ag 41 [aa,ab]::H):=m.fr 4
   have m:Mem W ap w (ib ag 41 [aa,ab]::ib ah 41 [sn,sn]::ib aj 41 [aq,sn]::ar::bh::H):=m.fr 4
   refine AC (λbp a w=>∃bq:Int,∃br:LL,(bq,br)=bp∧∃(bs:GH) (bt:Value) (bu:Itm),GLe ap bs∧Fr a 51 [(1,(pb ag)),(2,(pb ah)),(3,(pb aj)),(5,(iv bq))]∧Mem W bs w (ib ag 41 [aa,ab]::ib ah 41 [sn,sn]::ib aj 41 [aq,bt]::ar::bu::H)∧Ow R1 26 bs bu bt br) bk ⟨_,_,Z,_,sn,bh,gr,f.k Z,m,bi⟩ ?_
   clear bk f m
   rintro bp bv bw bx a w ⟨bq,br,rfl,bs,bt,bu,bz,f,m,bA⟩
   have af:=rd2 bz af
   refine Ag (Ae ?_)
   refine Ab f Z λa f=>Bu underlying41 Z sizeOf22 f Z λa f=>AJ 0 1 m Bb f Z Z Z Z λa f=>AO underlying22 f Z Z af λa f=>Ai f Z Z AE λa f=>Aa ?_
   rcases Af bw with⟨bB,bw⟩|⟨bB,bw⟩
   ·refine Al f Z bB ?_
    refine Am ?_
    refine Ag (Ak ?_)
    have m:Mem W bs w (bu::ib ag 41 [aa,ab]::ib ah 41 [sn,sn]::ib aj 41 [aq,bt]::ar::H):=m.fr 4
    obtain⟨bC,bD,m,bE⟩:=Ow.stamp (RSl.mono (RI.mono _)) bA m
    have af:=rd2 bD af
    refine A3 18 AM (by kernel_rfl) m ?_
    refine BW 0 18 underlying41 Z sizeOf22 Z f Z λa f=>BK 1 18 2 Bb Z Z Z f Z λa f=>BW 2 18 underlying41 Z sizeOf22 Z f Z λa f=>BK 3 18 0 Bb Z Z Z f Z λa f=>Ao 4 18 Z f Z λa f=> ?_
    have⟨bF,bG,bw⟩:=bind_some bw
    refine BJ 5 18 T22 af bG Z f Z Z λbH bI a bJ bK f=>BI 6 18 AT bJ Z f Z λa f=> ?_
    have⟨bL,bM,bw⟩:=bind_some bw
    refine BJ 7 18 T26 bK bM Z f Z Z λbN bO a bP bQ f=> ?_
    subst bQ
    refine BI 8 18 Pl2 bP Z f Z λa f=>BW 9 18 underlying41 Z sizeOf22 Z f Z λa f=>BK 10 18 0 Bb Z Z Z f Z λa f=>Ao 11 18 Z f Z λa f=> ?_
    have⟨bR,bS,bw⟩:=bind_some bw
    refine BJ 12 18 T22 af bS Z f Z Z λbT bU a bV bW f=>BI 13 18 AT bV Z f Z λa f=> ?_
    have⟨bX,bY,bw⟩:=bind_some bw
    refine BJ 14 18 T26 bW bY Z f Z Z λbZ b0 a b1 b2 f=> ?_
    subst b2
    refine BI 15 18 Pl2 b1 Z f Z λa f=>Bp 16 Z λb3 w b4 m b5 b5=> ?_
    have bE:=rd2 b4 bE
    have⟨b6,b7,bw⟩:=bind_some bw
    refine AL f Z call66 (Wk.R m bE b7) λb8 b9 ca w cb m cc a f=> ?_
    obtain⟨cd,ce,rfl,rfl,cf⟩:=cc
    refine Aa ?_
    refine b5 b9 [ce] _ _ cb m ?_
    refine BW 17 18 underlying41 Z sizeOf22 Z f Z λa f=>AU λcg w ch m=> ?_
    have cf:=Ow.mono (RSl.mono (RI.mono _)) ch cf
    refine Az 3 1 (ds:=[cd]) m sizeOf22 f Z Z (Ow.cells 0 m cf Z) (An (Ow.one1 0 m cf Z) AK) Z (lb Z) Z λw m=>Aa (Aj ?_)
    refine Ab f Z λa f=>Ai f Z Z Aw λa f=>Ac f Z λa f=>Aa ?_
    have m:=m.fr 4
    have m:=m.fr 4
    have m:Mem W cg w (ib ah 41 [sn,sn]::ib aj 41 [aq,cd]::ar::ce::ib ag 41 [aa,ab]::H):=m.fr 4
    have m:Mem W cg w (ib ag 41 [aa,ab]::ib ah 41 [sn,sn]::ib aj 41 [aq,cd]::ar::ce::H):=m.fr 4
    obtain rfl:=sj bw
    exact⟨_,Z,_,_,Z,_,cd,ce,(gt bz (gt bD (gt b4 (gt cb ch)))),f.k Z,m,cf⟩
   ·refine Ah f Z bB ?_
    refine AA Z ?_
    have m:=m.fr 4
    have m:=m.fr 4
    have m:Mem W bs w (ib aj 41 [aq,bt]::ar::bu::ib ag 41 [aa,ab]::ib ah 41 [sn,sn]::H):=m.fr 4
    have m:=m.fr 4
    have m:Mem W bs w (ib ah 41 [sn,sn]::ib aj 41 [aq,bt]::ar::bu::H):=m.eraseAt 4
    obtain rfl:=sj bw
    obtain rfl:=bx _ rfl
    exact⟨_,Z,_,bt,bu,bz,f.k Z,m,bA⟩
  ·rintro a w ⟨bl,rfl,bm,bn,bo,ci,f,m,cj⟩
   have bg:=Ow.mono (RSl.mono (RI.mono _)) ci bg
   refine Ae ?_
   refine AB 1 0 (ds:=[aq,bn]) m Ck f Z Z Z Z Z λa f=>Az 0 0 (ds:=[aq,bn]) m sizeOf41 f Z Z Z (An (Ow.one1 2 m bg Z) (An (Ow.one1 3 m cj Z) AK)) Z (lb Z) Z λw m=>Aa ?_
   refine Aq ?_
   have ck:=BY (P:=prog) 0 m Ck f (s:=2) rfl rfl rfl
   have m:=m.fr 3
   have m:=m.fr 3
   have m:Mem W bm w (ar::bo::ib ah 41 [aq,bn]::H):=m.eraseAt 3
   have m:=m.eraseAt 2
   obtain rfl:=sj hd
   exact⟨[(.agg #[aq,bn])],⟨ck,trivial⟩,f.d,_,[ar,bo],(gt bf ci),m,_,_,_,_,Z,Z,bg,cj⟩
theorem Wk.D0 {aa ab:Value}{ac ad:LL}(m:Mem W G w (H))(ae:R2 G aa ac)(af:R2 G ab ad){y:Int×Int}(hd:D.D0 ac ad=some y):
  Calls prog 72 #[(.agg #[aa,ab])] w (Res W G H (λ_ Ho v=>Ho=[]∧v= .tuple #[(iv y.1),(iv y.2)])):=by
 refine Ar (args:=[(.agg #[aa,ab])]) (N:=54) [.tmp 2,.tmp 3] func72 Z Z (lb Z) Z λa f=> ?_
 unfold D.D0 at hd
 refine Ae ?_
 refine Bi (cs:=[aa,ab]) m f Z Z Z λag w a m f=>Ac f Z λa f=>Ac f Z λa f=>Aa (Ag (Ae ?_))
 refine Ac f Z λa f=>Aa ?_
 have⟨ah,ai,hd⟩:=bind_some hd
 refine AH (λa w=>∃q_127':Unit,ah= .inl q_127'∧∃(aj:GH),GLe G aj∧Fr a 54 []∧Mem W aj w (H)) ?_ ?_
 ·refine Ak ?_
  refine AC (λak a w=>∃al:Int,al=ak∧∃(am:GH),GLe G am∧Fr a 54 [(1,(pb ag)),(4,(iv al))]∧Mem W am w (ib ag 41 [aa,ab]::H)) ai ⟨_,Z,_,gr,f.k Z,m⟩ ?_
  clear ai f m
  rintro ak an ao ap a w ⟨al,rfl,am,aq,f,m⟩
  have ae:=rd2 aq ae
  have af:=rd2 aq af
  refine Ag (Ae ?_)
  refine Ab f Z λa f=>Bu underlying41 Z sizeOf22 f Z λa f=>AJ 0 1 m Bb f Z Z Z Z λa f=>AO underlying22 f Z Z af λa f=>Ai f Z Z AE λa f=>Aa ?_
  rcases Af ao with⟨ar,ao⟩|⟨ar,ao⟩
  ·refine Al f Z ar ?_
   refine Am ?_
   refine Ag (Ak (Ae ?_))
   refine Bu underlying41 Z sizeOf22 f Z λa f=>AJ 0 1 m Bb f Z Z Z Z λa f=>Ab f Z λa f=> ?_
   have⟨au,av,ao⟩:=bind_some ao
   refine A2 T22 f Z Z Z af av λaw ax a ay az f=>Ax m AT f Z Z ay λa f=> ?_
   have⟨aA,aB,ao⟩:=bind_some ao
   refine A2 T26 f Z Z Z az aB λaC aD a aE aF f=> ?_
   subst aF
   refine Ax m Pl2 f Z Z aE λa f=>Ac f Z λa f=>Ay ?_
   refine Bu underlying41 Z sizeOf22 f Z λa f=>AJ 0 1 m Bb f Z Z Z Z λa f=>Ab f Z λa f=> ?_
   have⟨aG,aH,ao⟩:=bind_some ao
   refine A2 T22 f Z Z Z af aH λaI aJ a aK aL f=>Ax m AT f Z Z aK λa f=> ?_
   have⟨aM,aN,ao⟩:=bind_some ao
   refine A2 T26 f Z Z Z aL aN λaO aP a aQ aR f=> ?_
   subst aR
   refine Ax m Pl2 f Z Z aQ λa f=>Ac f Z λa f=>Aa (Ag (Ag ?_))
   refine A3 11 AM (by kernel_rfl) m ?_
   refine BW 0 11 underlying41 Z sizeOf22 Z f Z λa f=>BK 1 11 0 Bb Z Z Z f Z λa f=>Ao 2 11 Z f Z λa f=> ?_
   have⟨aS,aT,ao⟩:=bind_some ao
   refine BJ 3 11 T22 ae aT Z f Z Z λaU aV a aW aX f=>BI 4 11 AT aW Z f Z λa f=>BW 5 11 underlying41 Z sizeOf22 Z f Z λa f=>BK 6 11 0 Bb Z Z Z f Z λa f=>Ao 7 11 Z f Z λa f=> ?_
   have⟨aY,aZ,ao⟩:=bind_some ao
   refine BJ 8 11 T22 ae aZ Z f Z Z λa0 a1 a a2 a3 f=>BI 9 11 AT a2 Z f Z λa f=> ?_
   have⟨a4,a5,ao⟩:=bind_some ao
   refine BX (i:=10) 11 Z (by kernel_rfl) Z f Z Z Z call115 (λ_ _ w a6 m=>Wk.B m (rd1 a6 aX) (rd1 a6 a3) a5) λa f=>AU λa7 w a8 m=> ?_
   have ae:=rd2 a8 ae
   refine Aa ?_
   rcases Af ao with⟨a9,ao⟩|⟨a9,ao⟩
   ·refine Al f Z a9 ?_
    refine Ae ?_
    refine Ab f Z λa f=>Ab f Z λa f=>Ac f Z λa f=>Ac f Z λa f=>Aa ?_
    refine Aq ?_
    have m:Mem W a7 w H:=Mem.drop (H':=[ib ag 41 [aa,ab]]) m
    obtain rfl:=sj ao
    obtain rfl:=ap _ rfl
    obtain rfl:=sj hd
    exact⟨[(iv aM),(iv aA)],⟨f.get _ _ Z,f.get _ _ Z,trivial⟩,f.d,_,[],(gt aq a8),m,Z,Z⟩
   ·refine Ah f Z a9 ?_
    refine Am ?_
    refine Ag ?_
    refine A3 11 AM (by kernel_rfl) m ?_
    refine BW 0 11 underlying41 Z sizeOf22 Z f Z λa f=>BK 1 11 0 Bb Z Z Z f Z λa f=>Ao 2 11 Z f Z λa f=> ?_
    have⟨ba,bb,ao⟩:=bind_some ao
    refine BJ 3 11 T22 ae bb Z f Z Z λbc bd a be bf f=>BI 4 11 AT be Z f Z λa f=>BW 5 11 underlying41 Z sizeOf22 Z f Z λa f=>BK 6 11 0 Bb Z Z Z f Z λa f=>Ao 7 11 Z f Z λa f=> ?_
    have⟨bg,bh,ao⟩:=bind_some ao
    refine BJ 8 11 T22 ae bh Z f Z Z λbi bj a bk bl f=>BI 9 11 AT bk Z f Z λa f=> ?_
    have⟨bm,bn,ao⟩:=bind_some ao
    refine BX (i:=10) 11 Z (by kernel_rfl) Z f Z Z Z call115 (λ_ _ w bo m=>Wk.B m (rd1 bo bf) (rd1 bo bl) bn) λa f=>AU λbp w bq m=>Aa ?_
    rcases Af ao with⟨br,ao⟩|⟨br,ao⟩
    ·refine Al f Z br ?_
     refine Ae ?_
     refine Ab f Z λa f=>Ab f Z λa f=>Ac f Z λa f=>Ac f Z λa f=>Aa ?_
     refine Aq ?_
     have m:Mem W bp w H:=Mem.drop (H':=[ib ag 41 [aa,ab]]) m
     obtain rfl:=sj ao
     obtain rfl:=ap _ rfl
     obtain rfl:=sj hd
     exact⟨[(iv aA),(iv aM)],⟨f.get _ _ Z,f.get _ _ Z,trivial⟩,f.d,_,[],(gt aq (gt a8 bq)),m,Z,Z⟩
    ·refine Ah f Z br ?_
     refine Am ?_
     refine Aj ?_
     refine Ab f Z λa f=>Ai f Z Z Aw λa f=>Ac f Z λa f=>Aa ?_
     obtain rfl:=sj ao
     exact⟨_,Z,_,Z,_,(gt aq (gt a8 bq)),f.k Z,m⟩
  ·refine Ah f Z ar ?_
   refine AA Z ?_
   have m:Mem W am w H:=Mem.drop (H':=[ib ag 41 [aa,ab]]) m
   obtain rfl:=sj ao
   obtain rfl:=ap _ rfl
   exact⟨_,Z,_,aq,f.weak trivial,m⟩
 ·rintro a w ⟨_,rfl,aj,bs,f,m⟩
  refine Ae ?_
  refine Ac f Z λa f=>Ac f Z λa f=>Aa ?_
  refine Aq ?_
  obtain rfl:=sj hd
  exact⟨[(iv (-1)),(iv (-1))],⟨f.get _ _ Z,f.get _ _ Z,trivial⟩,f.d,_,[],bs,m,Z,Z⟩
theorem Wk.v0 {aa ab:Value}{ac ad:LL}{x1 x2:Int}(m:Mem W G w (H))(ae:R2 G aa ac)(af:R2 G ab ad){y:(LL)×(LL)}(hd:D.v0 ac ad x1 x2=some y):
  Calls prog 73 #[(.agg #[aa,ab]),(iv x1),(iv x2)] w (Res W G H (λG' Ho v=>∃r0:Value,∃i0:Itm,∃r2:Value,∃i2:Itm,Ho=[i0,i2]∧v=(.agg #[r0,r2])∧Ow R1 26 G' i0 r0 y.1∧Ow R1 26 G' i2 r2 y.2)):=by
 refine Ar (args:=[(.agg #[aa,ab]),(iv x1),(iv x2)]) (N:=83) [.cell 6 41] func73 Z Z (lb Z) Z λa f=> ?_
 unfold D.v0 at hd
 refine Ae ?_
 refine Bi (cs:=[aa,ab]) m f Z Z Z λag w a m f=>Bm (cs:=[sn,sn]) zeroValue41 m f Z Z λah w a m f=>Ay ?_
 have ai:∀w,(Instr.build 41 #[]).run prog w= .ok (.agg #[sn,sn]) w:=by intro w;simp[Instr.build,Instr.fill,Bz,Bn,Bc,Bk,A7,Bx]
 refine BG f Z Z ai λa f=>Bm (cs:=[sn,sn]) zeroValue41 m f Z Z λaj w a m f=>Az 0 0 (ds:=[sn,sn]) m sizeOf41 f Z Z Z (An Z (An Z AK)) Z (lb Z) Z λw m=>Aa (Ag (Ae ?_))
 refine Ac f Z λa f=>Aa ?_
 obtain⟨ak,m,al⟩:=Ow.nil R1 26 m
 have⟨am,an,hd⟩:=bind_some hd
 refine AH (λa w=>∃ao:LL,ao=am∧∃(ap:GH) (aq:Value) (ar:Itm),GLe G ap∧Fr a 83 [(1,(iv x1)),(2,(iv x2)),(3,(pb ag)),(6,(pb ah)),(7,(pb aj))]∧Mem W ap w (ib ag 41 [aa,ab]::ib ah 41 [sn,sn]::ib aj 41 [aq,sn]::ar::H)∧Ow R1 26 ap ar aq ao) ?_ ?_
 ·refine Ak ?_
  have m:=m.fr 1
  have m:=m.fr 2
  have m:Mem W G w (ib ag 41 [aa,ab]::ib ah 41 [sn,sn]::ib aj 41 [sn,sn]::ak::H):=m.fr 3
  refine AC (λau a w=>∃av:Int,∃aw:LL,(av,aw)=au∧∃(ax:GH) (ay:Value) (az:Itm),GLe G ax∧Fr a 83 [(1,(iv x1)),(2,(iv x2)),(3,(pb ag)),(6,(pb ah)),(7,(pb aj)),(8,(iv av))]∧Mem W ax w (ib ag 41 [aa,ab]::ib ah 41 [sn,sn]::ib aj 41 [ay,sn]::az::H)∧Ow R1 26 ax az ay aw) an ⟨_,_,Z,_,sn,ak,gr,f.k Z,m,al⟩ ?_
  clear an f m
  rintro au aA aB aC a w ⟨av,aw,rfl,ax,ay,az,aD,f,m,aE⟩
  have ae:=rd2 aD ae
  refine Ag (Ae ?_)
  refine Ab f Z λa f=>Bu underlying41 Z sizeOf22 f Z λa f=>AJ 0 0 m Bb f Z Z Z Z λa f=>AO underlying22 f Z Z ae λa f=>Ai f Z Z AE λa f=>Aa ?_
  rcases Af aB with⟨aF,aB⟩|⟨aF,aB⟩
  ·refine Al f Z aF ?_
   refine Am ?_
   refine Ag (Ak (Ae ?_))
   refine Ab f Z λa f=>Ab f Z λa f=>Ai f Z Z B8 λa f=>Aa ?_
   rcases Af aB with⟨aG,aB⟩|⟨aG,aB⟩
   ·refine Al f Z aG ?_
    refine A3 9 AM (by kernel_rfl) m ?_
    refine BW 0 9 underlying41 Z sizeOf22 Z f Z λa f=>BK 1 9 2 Bb Z Z Z f Z λa f=>BW 2 9 underlying41 Z sizeOf22 Z f Z λa f=>BK 3 9 0 Bb Z Z Z f Z λa f=>Ao 4 9 Z f Z λa f=> ?_
    have⟨aH,aI,aB⟩:=bind_some aB
    refine BJ 5 9 T22 ae aI Z f Z Z λaJ aK a aL aM f=>BI 6 9 AT aL Z f Z λa f=>Bp 7 Z λaN w aO m aP aP=> ?_
    have aM:=rd1 aO aM
    have aE:=Ow.mono (RSl.mono (RI.mono _)) aO aE
    have⟨aQ,aR,aB⟩:=bind_some aB
    refine AL f Z call43 (Wk.e m aM aR) λaS aT aU w aV m aW a f=> ?_
    obtain⟨aX,aY,rfl,rfl,aZ⟩:=aW
    have aE:=Ow.mono (RSl.mono (RI.mono _)) aV aE
    refine Aa ?_
    refine aP aT [aY] _ _ aV m ?_
    refine Bp 8 Z λa0 w a1 m a2 a2=> ?_
    have aZ:=od1 a1 aZ
    have aE:=Ow.mono (RSl.mono (RI.mono _)) a1 aE
    obtain⟨a3,a4,m,a5⟩:=Ow.stamp (RI.mono _) aZ m
    have aE:=Ow.mono (RSl.mono (RI.mono _)) a4 aE
    refine AP (R:=R1) (xs:=([aQ]:LL)) (RSl.one _) m T22 f Z Z Z (by decide) (All2.cons a5 (All2.nil _)) λa6 a7 w a m a8 f=>Aa ?_
    refine a2 a3 [a6] _ _ a4 m ?_
    refine AU λa9 w ba m=> ?_
    have a8:=Ow.mono (RSl.mono (RI.mono _)) ba a8
    have aE:=Ow.mono (RSl.mono (RI.mono _)) ba aE
    have⟨bb,bc,aB⟩:=bind_some aB
    refine AW (RSl.one _) 4 m aE Z T22 Z (by decide) f Z Z Z (Ow.src (j:=0) a8 m Z) bc λbd be w a m bf f=>Bu underlying41 Z sizeOf22 f Z λa f=>Az 3 0 (ds:=[be]) m sizeOf22 f Z Z (Ow.cells 4 m bf Z) (An (Ow.one1 4 m bf Z) AK) Z (lb Z) Z λw m=>Aa (Aj ?_)
    refine Ab f Z λa f=>Ai f Z Z Aw λa f=>Ac f Z λa f=>Aa ?_
    have m:=m.fr 4
    have m:=m.fr 4
    have m:Mem W a9 w (ib ah 41 [sn,sn]::ib aj 41 [be,sn]::bd::a6::ib ag 41 [aa,ab]::H):=m.fr 4
    have m:=m.fr 4
    have m:Mem W a9 w (ib ag 41 [aa,ab]::ib ah 41 [sn,sn]::ib aj 41 [be,sn]::bd::H):=m.eraseAt 4
    obtain rfl:=sj aB
    exact⟨_,Z,_,_,Z,_,be,bd,(gt aD (gt aO (gt aV (gt a1 (gt a4 ba))))),f.k Z,m,bf⟩
   ·refine Ah f Z aG ?_
    refine Am ?_
    refine Aj ?_
    refine Ab f Z λa f=>Ai f Z Z Aw λa f=>Ac f Z λa f=>Aa ?_
    obtain rfl:=sj aB
    exact⟨_,Z,_,_,Z,_,ay,az,aD,f.k Z,m,aE⟩
  ·refine Ah f Z aF ?_
   refine AA Z ?_
   obtain rfl:=sj aB
   obtain rfl:=aC _ rfl
   exact⟨_,Z,_,ay,az,aD,f.k Z,m,aE⟩
 ·rintro a w ⟨ao,rfl,ap,aq,ar,bg,f,m,bh⟩
  have af:=rd2 bg af
  refine Ag (Ae ?_)
  refine Ac f Z λa f=>Aa ?_
  obtain⟨bi,m,bj⟩:=Ow.nil R1 26 m
  have⟨bk,bl,hd⟩:=bind_some hd
  refine AH (λa w=>∃bm:LL,bm=bk∧∃(bn:GH) (bo:Value) (bp:Itm),GLe ap bn∧Fr a 83 [(6,(pb ah)),(7,(pb aj))]∧Mem W bn w (ib ah 41 [sn,sn]::ib aj 41 [aq,bo]::ar::bp::H)∧Ow R1 26 bn bp bo bm) ?_ ?_
  ·refine Ak ?_
   have m:=m.fr 4
   have m:=m.fr 4
   have m:Mem W ap w (ib ah 41 [sn,sn]::ib aj 41 [aq,sn]::ar::bi::ib ag 41 [aa,ab]::H):=m.fr 4
   have m:Mem W ap w (ib ag 41 [aa,ab]::ib ah 41 [sn,sn]::ib aj 41 [aq,sn]::ar::bi::H):=m.fr 4
   refine AC (λbq a w=>∃br:Int,∃bs:LL,(br,bs)=bq∧∃(bt:GH) (bu:Value) (bv:Itm),GLe ap bt∧Fr a 83 [(1,(iv x1)),(2,(iv x2)),(3,(pb ag)),(6,(pb ah)),(7,(pb aj)),(9,(iv br))]∧Mem W bt w (ib ag 41 [aa,ab]::ib ah 41 [sn,sn]::ib aj 41 [aq,bu]::ar::bv::H)∧Ow R1 26 bt bv bu bs) bl ⟨_,_,Z,_,sn,bi,gr,f.k Z,m,bj⟩ ?_
   clear bl f m
   rintro bq bw bx bz a w ⟨br,bs,rfl,bt,bu,bv,bA,f,m,bB⟩
   have af:=rd2 bA af
   refine Ag (Ae ?_)
   refine Ab f Z λa f=>Bu underlying41 Z sizeOf22 f Z λa f=>AJ 0 1 m Bb f Z Z Z Z λa f=>AO underlying22 f Z Z af λa f=>Ai f Z Z AE λa f=>Aa ?_
   rcases Af bx with⟨bC,bx⟩|⟨bC,bx⟩
   ·refine Al f Z bC ?_
    refine Am ?_
    refine Ag (Ak (Ae ?_))
    refine Bu underlying41 Z sizeOf22 f Z λa f=>AJ 0 1 m Bb f Z Z Z Z λa f=>Ab f Z λa f=> ?_
    have⟨bD,bE,bx⟩:=bind_some bx
    refine A2 T22 f Z Z Z af bE λbF bG a bH bI f=>Ax m AT f Z Z bH λa f=> ?_
    have⟨bJ,bK,bx⟩:=bind_some bx
    refine A2 T26 f Z Z Z bI bK λbL bM a bN bO f=> ?_
    subst bO
    refine Ax m Pl2 f Z Z bN λa f=>Ac f Z λa f=>Ay ?_
    refine Bu underlying41 Z sizeOf22 f Z λa f=>AJ 0 1 m Bb f Z Z Z Z λa f=>Ab f Z λa f=> ?_
    have⟨bP,bQ,bx⟩:=bind_some bx
    refine A2 T22 f Z Z Z af bQ λbR bS a bT bU f=>Ax m AT f Z Z bT λa f=> ?_
    have⟨bV,bW,bx⟩:=bind_some bx
    refine A2 T26 f Z Z Z bU bW λbX bY a bZ b0 f=> ?_
    subst b0
    refine Ax m Pl2 f Z Z bZ λa f=>Ac f Z λa f=>Aa (Ag (Ae ?_))
    refine Ab f Z λa f=>Ab f Z λa f=>Ai f Z Z BS λa f=>Aa ?_
    have⟨b1,b2,bx⟩:=bind_some bx
    refine AH (λa w=>∃b3:Int,b3=b1∧∃(b4:GH),GLe bt b4∧Fr a 83 [(1,(iv x1)),(2,(iv x2)),(3,(pb ag)),(6,(pb ah)),(7,(pb aj)),(9,(iv br)),(10,(iv b3)),(11,(iv bV))]∧Mem W b4 w (ib ag 41 [aa,ab]::ib ah 41 [sn,sn]::ib aj 41 [aq,bu]::ar::bv::H)) ?_ ?_
    ·rcases Af b2 with⟨b5,b2⟩|⟨b5,b2⟩
     ·refine Al f Z b5 ?_
      refine Aj ?_
      refine Ab f Z λa f=>Ac f Z λa f=>Aa ?_
      obtain rfl:=sj b2
      exact⟨_,Z,_,gr,f.k Z,m⟩
     ·refine Ah f Z b5 ?_
      refine Am ?_
      obtain rfl:=sj b2
      exact⟨_,Z,_,gr,f.k Z,m⟩
    ·rintro a w ⟨b3,rfl,b4,b6,f,m⟩
     have bB:=Ow.mono (RSl.mono (RI.mono _)) b6 bB
     refine Ag (Ae ?_)
     refine Ab f Z λa f=>Ab f Z λa f=>Ai f Z Z BS λa f=>Aa ?_
     have⟨b7,b8,bx⟩:=bind_some bx
     refine AH (λa w=>∃b9:Int,b9=b7∧∃(ca:GH),GLe b4 ca∧Fr a 83 [(1,(iv x1)),(2,(iv x2)),(3,(pb ag)),(6,(pb ah)),(7,(pb aj)),(9,(iv br)),(10,(iv b3)),(11,(iv b9))]∧Mem W ca w (ib ag 41 [aa,ab]::ib ah 41 [sn,sn]::ib aj 41 [aq,bu]::ar::bv::H)) ?_ ?_
     ·rcases Af b8 with⟨cb,b8⟩|⟨cb,b8⟩
      ·refine Al f Z cb ?_
       refine Aj ?_
       refine Ab f Z λa f=>Ac f Z λa f=>Aa ?_
       obtain rfl:=sj b8
       exact⟨_,Z,_,gr,f.k Z,m⟩
      ·refine Ah f Z cb ?_
       refine Am ?_
       obtain rfl:=sj b8
       exact⟨_,Z,_,gr,f.k Z,m⟩
     ·rintro a w ⟨b9,rfl,ca,cc,f,m⟩
      have bB:=Ow.mono (RSl.mono (RI.mono _)) cc bB
      refine Ae ?_
      refine Ab f Z λa f=>Ab f Z λa f=>Ai f Z Z B8 λa f=>Aa ?_
      rcases Af bx with⟨cd,bx⟩|⟨cd,bx⟩
      ·refine Al f Z cd ?_
       have m:Mem W ca w (bv::ib ag 41 [aa,ab]::ib ah 41 [sn,sn]::ib aj 41 [aq,bu]::ar::H):=m.fr 4
       obtain⟨ce,cf,m,cg⟩:=Ow.stamp (RSl.mono (RI.mono _)) bB m
       refine A3 16 AM (by kernel_rfl) m ?_
       refine BW 0 16 underlying41 Z sizeOf22 Z f Z λa f=>BK 1 16 2 Bb Z Z Z f Z λa f=>Ao 2 16 Z f Z λa f=>Ao 3 16 Z f Z λa f=>Ao 4 16 Z f Z λa f=>q_p 5 16 Z f (λ_=>AV (f.e Z) (f.e Z) Cf) λa f=> ?_
       have⟨ch,ci,bx⟩:=bind_some bx
       refine BX (i:=6) 16 Z (by kernel_rfl) Z f Z Z Z call116 (λ_ _ w cj m=>Wk.m m ci) λa f=>q_p 7 16 Z f (λ_=>AV (f.e Z) (f.e Z) Bh) λa f=>Ao 8 16 Z f Z λa f=>Ao 9 16 Z f Z λa f=>Ao 10 16 Z f Z λa f=>q_p 11 16 Z f (λ_=>AV (f.e Z) (f.e Z) Cf) λa f=> ?_
       have⟨ck,cl,bx⟩:=bind_some bx
       refine BX (i:=12) 16 Z (by kernel_rfl) Z f Z Z Z call116 (λ_ _ w cm m=>Wk.m m cl) λa f=>q_p 13 16 Z f (λ_=>AV (f.e Z) (f.e Z) Bh) λa f=>Bp 14 Z λcn w co m cp cp=> ?_
       have cg:=rd2 co cg
       have⟨cq,cr,bx⟩:=bind_some bx
       refine AL f Z call66 (Wk.R m cg cr) λct cu cv w cw m cx a f=> ?_
       obtain⟨cy,cz,rfl,rfl,cA⟩:=cx
       refine Aa ?_
       refine cp cu [cz] _ _ cw m ?_
       refine BW 15 16 underlying41 Z sizeOf22 Z f Z λa f=>AU λcB w cC m=> ?_
       have cA:=Ow.mono (RSl.mono (RI.mono _)) cC cA
       refine Az 3 1 (ds:=[cy]) m sizeOf22 f Z Z (Ow.cells 0 m cA Z) (An (Ow.one1 0 m cA Z) AK) Z (lb Z) Z λw m=>Aa (Aj ?_)
       refine Ab f Z λa f=>Ai f Z Z Aw λa f=>Ac f Z λa f=>Aa ?_
       have m:=m.fr 4
       have m:=m.fr 4
       have m:Mem W cB w (ib ah 41 [sn,sn]::ib aj 41 [aq,cy]::ar::cz::ib ag 41 [aa,ab]::H):=m.fr 4
       have m:Mem W cB w (ib ag 41 [aa,ab]::ib ah 41 [sn,sn]::ib aj 41 [aq,cy]::ar::cz::H):=m.fr 4
       obtain rfl:=sj bx
       exact⟨_,Z,_,_,Z,_,cy,cz,(gt bA (gt b6 (gt cc (gt cf (gt co (gt cw cC)))))),f.k Z,m,cA⟩
      ·refine Ah f Z cd ?_
       refine Am ?_
       refine Aj ?_
       refine Ab f Z λa f=>Ai f Z Z Aw λa f=>Ac f Z λa f=>Aa ?_
       obtain rfl:=sj bx
       exact⟨_,Z,_,_,Z,_,bu,bv,(gt bA (gt b6 cc)),f.k Z,m,bB⟩
   ·refine Ah f Z bC ?_
    refine AA Z ?_
    have m:=m.fr 4
    have m:=m.fr 4
    have m:Mem W bt w (ib aj 41 [aq,bu]::ar::bv::ib ag 41 [aa,ab]::ib ah 41 [sn,sn]::H):=m.fr 4
    have m:=m.fr 4
    have m:Mem W bt w (ib ah 41 [sn,sn]::ib aj 41 [aq,bu]::ar::bv::H):=m.eraseAt 4
    obtain rfl:=sj bx
    obtain rfl:=bz _ rfl
    exact⟨_,Z,_,bu,bv,bA,f.k Z,m,bB⟩
  ·rintro a w ⟨bm,rfl,bn,bo,bp,cD,f,m,cE⟩
   have bh:=Ow.mono (RSl.mono (RI.mono _)) cD bh
   refine Ae ?_
   refine AB 1 0 (ds:=[aq,bo]) m Ck f Z Z Z Z Z λa f=>Az 0 0 (ds:=[aq,bo]) m sizeOf41 f Z Z Z (An (Ow.one1 2 m bh Z) (An (Ow.one1 3 m cE Z) AK)) Z (lb Z) Z λw m=>Aa ?_
   refine Aq ?_
   have cF:=BY (P:=prog) 0 m Ck f (s:=6) rfl rfl rfl
   have m:=m.fr 3
   have m:=m.fr 3
   have m:Mem W bn w (ar::bp::ib ah 41 [aq,bo]::H):=m.eraseAt 3
   have m:=m.eraseAt 2
   obtain rfl:=sj hd
   exact⟨[(.agg #[aq,bo])],⟨cF,trivial⟩,f.d,_,[ar,bp],(gt bg cD),m,_,_,_,_,Z,Z,bh,cE⟩
theorem Wk.I1 {aa ab ac:Value}{ad ae af:LL}(m:Mem W G w (H))(ag:R2 G aa ad)(ah:R2 G ab ae)(ai:R2 G ac af){y:(LL)×(LL)×Bool}(hd:D.I1 ad ae af=some y):
  Calls prog 35 #[(.agg #[aa]),(.agg #[ab,ac])] w (Res W G H (λG' Ho v=>∃r0:Value,∃i0:Itm,∃r2:Value,∃i2:Itm,Ho=[i0,i2]∧v= .tuple #[(.agg #[r0,r2]),(.bool y.2.2)]∧Ow R1 26 G' i0 r0 y.1∧Ow R1 26 G' i2 r2 y.2.1)):=by
 refine Ar (args:=[(.agg #[aa]),(.agg #[ab,ac])]) (N:=28) [.cell 4 41,.tmp 5] func35 Z Z (lb Z) Z λa f=> ?_
 unfold D.I1 at hd
 refine Ae ?_
 refine Bi (cs:=[aa]) m f Z Z Z λaj w a m f=>Bi (cs:=[ab,ac]) m f Z Z Z λak w a m f=>Bm (cs:=[sn,sn]) zeroValue41 m f Z Z λal w a m f=>Ac f Z λa f=>Aa (Ag (Ae ?_))
 refine AB 2 0 (ds:=[aa]) m Bj f Z Z Z Z Z λa f=>AB 1 0 (ds:=[ab,ac]) m Ck f Z Z Z Z Z λa f=> ?_
 have⟨am,an,hd⟩:=bind_some hd
 refine A6 f Z call70 (Wk.i1 m ag ah ai an) λao w ap m a f=> ?_
 have ah:=rd2 ap ah
 have ai:=rd2 ap ai
 refine l_o f (Bv (f.e Z)) λa f=>Aa ?_
 rcases Af hd with⟨aq,hd⟩|⟨aq,hd⟩
 ·refine Al f Z aq ?_
  refine Ae ?_
  have ar:∀w,(Instr.build 41 #[]).run prog w= .ok (.agg #[sn,sn]) w:=by intro w;simp[Instr.build,Instr.fill,Bz,Bn,Bc,Bk,A7,Bx]
  refine BG f Z Z ar λa f=>Az 0 0 (ds:=[sn,sn]) m sizeOf41 f Z Z Z (An Z (An Z AK)) Z (lb Z) Z λw m=>Ac f Z λa f=>Aa ?_
  refine Aq ?_
  obtain⟨au,m,av⟩:=Ow.nil R1 26 m
  obtain⟨aw,m,ax⟩:=Ow.nil R1 26 m
  have ay:=BY (P:=prog) 2 m Ck f (s:=4) rfl rfl rfl
  have m:=m.fr 1
  have m:=m.eraseAt 4
  have m:Mem W ao w (au::aw::ib al 41 [sn,sn]::H):=m.eraseAt 3
  have m:=m.eraseAt 2
  obtain rfl:=sj hd
  exact⟨[(.agg #[sn,sn]),(.bool false)],⟨ay,f.get _ _ Z,trivial⟩,f.d,_,[au,aw],ap,m,_,_,_,_,Z,Z,av,ax⟩
 ·refine Ah f Z aq ?_
  refine Am ?_
  refine Ae ?_
  refine AB 1 0 (ds:=[ab,ac]) m Ck f Z Z Z Z Z λa f=> ?_
  have⟨az,aA,hd⟩:=bind_some hd
  refine AL f Z call71 (Wk.U0 m ah ai aA) λaB aC aD w aE m aF a f=> ?_
  obtain⟨aG,aH,aI,aJ,rfl,rfl,aK,aL⟩:=aF
  refine Bm (cs:=[sn,sn]) zeroValue41 m f Z Z λaM w a m f=>Az 0 0 (ds:=[aG,aI]) m sizeOf41 f Z Z Z (An (Ow.one1 1 m aK Z) (An (Ow.one1 2 m aL Z) AK)) Z (lb Z) Z λw m=>Aa ?_
  have⟨aN,aO,hd⟩:=bind_some hd
  refine Ak ?_
  have m:=m.fr 3
  have m:=m.eraseAt 5
  have m:Mem W aC w (ib al 41 [sn,sn]::ib aM 41 [aG,aI]::aH::aJ::H):=m.eraseAt 4
  refine AC (λaP a w=>∃aQ:LL,∃aR:LL,(aQ,aR)=aP∧∃(aS:GH) (aT:Value) (aU:Itm) (aV:Value) (aW:Itm),GLe aC aS∧Fr a 28 [(4,(pb al)),(6,(pb aM))]∧Mem W aS w (ib al 41 [sn,sn]::ib aM 41 [aT,aV]::aU::aW::H)∧Ow R1 26 aS aU aT aQ∧Ow R1 26 aS aW aV aR) aO ⟨_,_,Z,_,aG,aH,aI,aJ,gr,f.k Z,m,aK,aL⟩ ?_
  clear aO f m
  rintro aP aX aY aZ a w ⟨aQ,aR,rfl,aS,aT,aU,aV,aW,a0,f,m,a1,a2⟩
  refine Ak (Ae ?_)
  refine AB 1 0 (ds:=[aT,aV]) m Ck f Z Z Z Z Z λa f=> ?_
  have⟨a3,a4,aY⟩:=bind_some aY
  refine AL f Z call72 (Ow.lendCall (RSl.mono (RI.mono _)) 2 a1 m Z (λa5 a6 m a7=>(Ow.lendCall (RSl.mono (RI.mono _)) 2 (Ow.mono (RSl.mono (RI.mono _)) a6 a2) m Z (λa8 a9 m ba=>Wk.D0 m (rd2 a9 a7) ba a4) (λ_ _ _ _ h=>h))) (λ_ _ _ _ h=>h)) λbb bc bd w be m bf a f=> ?_
  obtain⟨rfl,rfl⟩:=bf
  have a1:=Ow.mono (RSl.mono (RI.mono _)) be a1
  have a2:=Ow.mono (RSl.mono (RI.mono _)) be a2
  refine Ab f Z λa f=>l_o f (A9 (f.e Z) Z) λa f=>l_o f (A9 (f.e Z) Z) λa f=>Ac f Z λa f=>Ac f Z λa f=>Aa (Ag (Ae ?_))
  refine Ab f Z λa f=>Ai f Z Z AE λa f=>Aa ?_
  rcases Af aY with⟨bg,aY⟩|⟨bg,aY⟩
  ·refine Al f Z bg ?_
   refine Ae ?_
   refine AB 1 0 (ds:=[aT,aV]) m Ck f Z Z Z Z Z λa f=>Az 0 0 (ds:=[aT,aV]) m sizeOf41 f Z Z Z (An (Ow.one1 2 m a1 Z) (An (Ow.one1 3 m a2 Z) AK)) Z (lb Z) Z λw m=>Ac f Z λa f=>Aa ?_
   refine Aq ?_
   have bh:=BY (P:=prog) 0 m Ck f (s:=4) rfl rfl rfl
   have m:=m.fr 3
   have m:=m.fr 3
   have m:Mem W bc w (aU::aW::ib al 41 [aT,aV]::H):=m.eraseAt 3
   have m:=m.eraseAt 2
   obtain rfl:=sj aY
   obtain rfl:=aZ _ rfl
   obtain rfl:=sj hd
   exact⟨[(.agg #[aT,aV]),(.bool true)],⟨bh,f.get _ _ Z,trivial⟩,f.d,_,[aU,aW],(gt ap (gt aE (gt a0 be))),m,_,_,_,_,Z,Z,a1,a2⟩
  ·refine Ah f Z bg ?_
   refine Am ?_
   refine Aj ?_
   refine AB 1 0 (ds:=[aT,aV]) m Ck f Z Z Z Z Z λa f=>Ab f Z λa f=>Ab f Z λa f=> ?_
   have m:Mem W bc w (aU::ib al 41 [sn,sn]::ib aM 41 [aT,aV]::aW::H):=m.fr 2
   obtain⟨bi,bj,m,bk⟩:=Ow.stamp (RSl.mono (RI.mono _)) a1 m
   have a2:=Ow.mono (RSl.mono (RI.mono _)) bj a2
   have m:Mem W bi w (aW::ib al 41 [sn,sn]::ib aM 41 [aT,aV]::H):=m.fr 2
   obtain⟨bl,bm,m,bn⟩:=Ow.stamp (RSl.mono (RI.mono _)) a2 m
   have bk:=rd2 bm bk
   have⟨bo,bp,aY⟩:=bind_some aY
   refine AL f Z call73 (Wk.v0 m bk bn bp) λbq br bs w bt m bu a f=> ?_
   obtain⟨bv,bw,bx,bz,rfl,rfl,bA,bB⟩:=bu
   refine Az 3 0 (ds:=[bv,bx]) m sizeOf41 f Z Z Z (An (Ow.one1 0 m bA Z) (An (Ow.one1 1 m bB Z) AK)) Z (lb Z) Z λw m=>Aa ?_
   have m:=m.fr 3
   have m:Mem W br w (ib al 41 [sn,sn]::ib aM 41 [bv,bx]::bw::bz::H):=m.fr 3
   obtain rfl:=sj aY
   exact⟨_,Z,_,_,Z,_,bv,bw,bx,bz,(gt a0 (gt be (gt bj (gt bm bt)))),f.k Z,m,bA,bB⟩
theorem Wk.q0 {aa:Value}{ab:LL}(m:Mem W G w (H))(ac:R2 G aa ab){y:(LL)×(LL)×Bool}(hd:D.q0 ab=some y):
  Calls prog 15 #[(.agg #[aa])] w (Res W G H (λG' Ho v=>∃r0:Value,∃i0:Itm,∃r2:Value,∃i2:Itm,Ho=[i0,i2]∧v= .tuple #[(.agg #[r0,r2]),(.bool y.2.2)]∧Ow R1 26 G' i0 r0 y.1∧Ow R1 26 G' i2 r2 y.2.1)):=by
 refine Ar (args:=[(.agg #[aa])]) (N:=22) [.cell 2 41,.tmp 3] func15 Z Z (lb Z) Z λa f=> ?_
 unfold D.q0 at hd
 refine Ae ?_
 refine Bi (cs:=[aa]) m f Z Z Z λad w a m f=>Bm (cs:=[sn,sn]) zeroValue41 m f Z Z λae w a m f=>Ac f Z λa f=>Aa (Ag (Ae ?_))
 refine AB 1 0 (ds:=[aa]) m Bj f Z Z Z Z Z λa f=> ?_
 have⟨af,ag,hd⟩:=bind_some hd
 refine A6 f Z call32 (Wk.Q m ac ag) λah w ai m a f=> ?_
 have ac:=rd2 ai ac
 refine l_o f (Bv (f.e Z)) λa f=>Aa ?_
 rcases Af hd with⟨aj,hd⟩|⟨aj,hd⟩
 ·refine Al f Z aj ?_
  refine Ae ?_
  have ak:∀w,(Instr.build 41 #[]).run prog w= .ok (.agg #[sn,sn]) w:=by intro w;simp[Instr.build,Instr.fill,Bz,Bn,Bc,Bk,A7,Bx]
  refine BG f Z Z ak λa f=>Az 0 0 (ds:=[sn,sn]) m sizeOf41 f Z Z Z (An Z (An Z AK)) Z (lb Z) Z λw m=>Ac f Z λa f=>Aa ?_
  refine Aq ?_
  obtain⟨al,m,am⟩:=Ow.nil R1 26 m
  obtain⟨an,m,ao⟩:=Ow.nil R1 26 m
  have ap:=BY (P:=prog) 2 m Ck f (s:=2) rfl rfl rfl
  have m:=m.fr 1
  have m:=m.eraseAt 3
  have m:=m.eraseAt 2
  obtain rfl:=sj hd
  exact⟨[(.agg #[sn,sn]),(.bool false)],⟨ap,f.get _ _ Z,trivial⟩,f.d,_,[al,an],ai,m,_,_,_,_,Z,Z,am,ao⟩
 ·refine Ah f Z aj ?_
  refine Am ?_
  refine Ag ?_
  have⟨aq,ar,hd⟩:=bind_some hd
  refine AH (λa w=>∃au:LL,∃av:LL,(au,av)=aq∧∃(aw:GH) (ax:Nat) (ay:Value) (az:Itm) (aA:Value) (aB:Itm),GLe ah aw∧Fr a 22 [(1,(pb ad)),(2,(pb ae)),(4,(pb ax))]∧Mem W aw w (ib ad 31 [aa]::ib ae 41 [sn,sn]::ib ax 41 [ay,aA]::az::aB::H)∧Ow R1 26 aw az ay au∧Ow R1 26 aw aB aA av) ?_ ?_
  ·refine A3 9 AM (by kernel_rfl) m ?_
   refine BM (i:=0) (ds:=[aa]) 9 1 Bj Z Z Z Z (by kernel_rfl) Z f Z Z Z λa f=>BM (i:=1) (ds:=[aa]) 9 1 Bj Z Z Z Z (by kernel_rfl) Z f Z Z Z λa f=>CY (i:=2) (j:=7) (l1:= #[true,true,true,false,false,false,false,false,false,false]) (l2:= #[true,true,false,false,false,false,false,true,false,false]) Z Z (by kernel_rfl) Z Z ?_ ?_
   ·intro aC w aD m aE aE
    have ac:=rd2 aD ac
    have⟨aF,aG,ar⟩:=bind_some ar
    refine AL f Z call34 (Wk.O0 m ac aG) λaH aI aJ w aK m aL a f=> ?_
    obtain⟨aM,aN,rfl,rfl,aO⟩:=aL
    have ac:=rd2 aK ac
    refine Aa ?_
    refine aE aI [aN] _ _ aK m ?_
    refine CY (i:=3) (j:=7) (l1:= #[true,true,true,true,false,false,false,false,false,false]) (l2:= #[true,true,true,false,false,false,false,true,false,false]) Z Z (by kernel_rfl) Z Z ?_ ?_
    ·intro aP w aQ m aR aR
     have ac:=rd2 aQ ac
     have aO:=od1 aQ aO
     obtain⟨aS,aT,m,aU⟩:=Ow.stamp (RI.mono _) aO m
     have ac:=rd2 aT ac
     have⟨aV,aW,ar⟩:=bind_some ar
     refine AL f Z call33 (Wk.Y m ac aU aW) λaX aY aZ w a0 m a1 a f=> ?_
     obtain⟨a2,a3,a4,a5,rfl,rfl,a6,a7⟩:=a1
     refine Aa ?_
     refine aR aY [a3,a5] _ _ (gt aT a0) m ?_
     refine Ao 4 9 Z f Z λa f=>q_p 5 9 Z f (λ_=>A9 (f.e Z) Z) λa f=>q_p 6 9 Z f (λ_=>A9 (f.e Z) Z) λa f=>Bp 7 Z λa8 w a9 m ba ba=> ?_
     have a6:=Ow.mono (RSl.mono (RI.mono _)) a9 a6
     have a7:=Ow.mono (RSl.mono (RI.mono _)) a9 a7
     refine Bm (cs:=[sn,sn]) zeroValue41 m f Z Z λbb w a m f=>Aa ?_
     refine ba a8 [ib bb 41 [sn,sn],a3,a5] _ _ gr m ?_
     refine Bp 8 Z λbc w bd m be be=> ?_
     have a6:=Ow.mono (RSl.mono (RI.mono _)) bd a6
     have a7:=Ow.mono (RSl.mono (RI.mono _)) bd a7
     refine Az 0 0 (ds:=[a2,a4]) m sizeOf41 f Z Z Z (An (Ow.one1 1 m a6 Z) (An (Ow.one1 2 m a7 Z) AK)) Z (lb Z) Z λw m=>Aa ?_
     refine be bc [ib bb 41 [a2,a4],a3,a5] _ _ gr m ?_
     refine AU λbf w bg m=> ?_
     have a6:=Ow.mono (RSl.mono (RI.mono _)) bg a6
     have a7:=Ow.mono (RSl.mono (RI.mono _)) bg a7
     refine Ac f Z λa f=>Aa ?_
     have m:=m.fr 3
     have m:Mem W bf w (ib ad 31 [aa]::ib ae 41 [sn,sn]::ib bb 41 [a2,a4]::a3::a5::H):=m.fr 4
     obtain rfl:=sj ar
     exact⟨_,_,Z,_,bb,a2,a3,a4,a5,(gt aD (gt aK (gt aQ (gt aT (gt a0 (gt a9 (gt bd bg))))))),f.k Z,m,a6,a7⟩
    ·intro a8 w a9 m ba ba
     have⟨aV,aW,ar⟩:=bind_some ar
     have ac:=rd2 a9 ac
     have aO:=od1 a9 aO
     refine Bm (cs:=[sn,sn]) zeroValue41 m f Z Z λbb w a m f=>Aa ?_
     refine ba a8 [ib bb 41 [sn,sn],aN] _ _ gr m ?_
     refine Bp 3 Z λaP w aQ m aR aR=> ?_
     have ac:=rd2 aQ ac
     have aO:=od1 aQ aO
     have m:Mem W aP w (aN::ib bb 41 [sn,sn]::ib ae 41 [sn,sn]::ib ad 31 [aa]::H):=m.fr 1
     obtain⟨aS,aT,m,aU⟩:=Ow.stamp (RI.mono _) aO m
     have ac:=rd2 aT ac
     refine AL f Z call33 (Wk.Y m ac aU aW) λaX aY aZ w a0 m a1 a f=> ?_
     obtain⟨a2,a3,a4,a5,rfl,rfl,a6,a7⟩:=a1
     refine Aa ?_
     refine aR aY [a3,a5,ib bb 41 [sn,sn]] _ _ (gt aT a0) m ?_
     refine Ao 4 9 Z f Z λa f=>q_p 5 9 Z f (λ_=>A9 (f.e Z) Z) λa f=>q_p 6 9 Z f (λ_=>A9 (f.e Z) Z) λa f=>Bp 8 Z λbc w bd m be be=> ?_
     have a6:=Ow.mono (RSl.mono (RI.mono _)) bd a6
     have a7:=Ow.mono (RSl.mono (RI.mono _)) bd a7
     refine Az 2 0 (ds:=[a2,a4]) m sizeOf41 f Z Z Z (An (Ow.one1 0 m a6 Z) (An (Ow.one1 1 m a7 Z) AK)) Z (lb Z) Z λw m=>Aa ?_
     refine be bc [a3,a5,ib bb 41 [a2,a4]] _ _ gr m ?_
     refine AU λbf w bg m=> ?_
     have a6:=Ow.mono (RSl.mono (RI.mono _)) bg a6
     have a7:=Ow.mono (RSl.mono (RI.mono _)) bg a7
     refine Ac f Z λa f=>Aa ?_
     have m:=m.fr 2
     have m:=m.fr 3
     have m:Mem W bf w (ib ad 31 [aa]::ib ae 41 [sn,sn]::ib bb 41 [a2,a4]::a3::a5::H):=m.fr 4
     obtain rfl:=sj ar
     exact⟨_,_,Z,_,bb,a2,a3,a4,a5,(gt aD (gt aK (gt a9 (gt aQ (gt aT (gt a0 (gt bd bg))))))),f.k Z,m,a6,a7⟩
   ·intro a8 w a9 m ba ba
    have⟨aF,aG,ar⟩:=bind_some ar
    have⟨aV,aW,ar⟩:=bind_some ar
    have ac:=rd2 a9 ac
    refine Bm (cs:=[sn,sn]) zeroValue41 m f Z Z λbb w a m f=>Aa ?_
    refine ba a8 [ib bb 41 [sn,sn]] _ _ gr m ?_
    refine Bp 2 Z λaC w aD m aE aE=> ?_
    have ac:=rd2 aD ac
    refine AL f Z call34 (Wk.O0 m ac aG) λaH aI aJ w aK m aL a f=> ?_
    obtain⟨aM,aN,rfl,rfl,aO⟩:=aL
    have ac:=rd2 aK ac
    refine Aa ?_
    refine aE aI [aN,ib bb 41 [sn,sn]] _ _ aK m ?_
    refine Bp 3 Z λaP w aQ m aR aR=> ?_
    have ac:=rd2 aQ ac
    have aO:=od1 aQ aO
    obtain⟨aS,aT,m,aU⟩:=Ow.stamp (RI.mono _) aO m
    have ac:=rd2 aT ac
    refine AL f Z call33 (Wk.Y m ac aU aW) λaX aY aZ w a0 m a1 a f=> ?_
    obtain⟨a2,a3,a4,a5,rfl,rfl,a6,a7⟩:=a1
    refine Aa ?_
    refine aR aY [a3,a5,ib bb 41 [sn,sn]] _ _ (gt aT a0) m ?_
    refine Ao 4 9 Z f Z λa f=>q_p 5 9 Z f (λ_=>A9 (f.e Z) Z) λa f=>q_p 6 9 Z f (λ_=>A9 (f.e Z) Z) λa f=>Bp 8 Z λbc w bd m be be=> ?_
    have a6:=Ow.mono (RSl.mono (RI.mono _)) bd a6
    have a7:=Ow.mono (RSl.mono (RI.mono _)) bd a7
    refine Az 2 0 (ds:=[a2,a4]) m sizeOf41 f Z Z Z (An (Ow.one1 0 m a6 Z) (An (Ow.one1 1 m a7 Z) AK)) Z (lb Z) Z λw m=>Aa ?_
    refine be bc [a3,a5,ib bb 41 [a2,a4]] _ _ gr m ?_
    refine AU λbf w bg m=> ?_
    have a6:=Ow.mono (RSl.mono (RI.mono _)) bg a6
    have a7:=Ow.mono (RSl.mono (RI.mono _)) bg a7
    refine Ac f Z λa f=>Aa ?_
    have m:=m.fr 2
    have m:=m.fr 3
    have m:Mem W bf w (ib ad 31 [aa]::ib ae 41 [sn,sn]::ib bb 41 [a2,a4]::a3::a5::H):=m.fr 4
    obtain rfl:=sj ar
    exact⟨_,_,Z,_,bb,a2,a3,a4,a5,(gt a9 (gt aD (gt aK (gt aQ (gt aT (gt a0 (gt bd bg))))))),f.k Z,m,a6,a7⟩
  ·rintro a w ⟨au,av,rfl,aw,ax,ay,az,aA,aB,bh,f,m,bi,bj⟩
   have ac:=rd2 bh ac
   refine Ae ?_
   refine AB 0 0 (ds:=[aa]) m Bj f Z Z Z Z Z λa f=>AB 2 0 (ds:=[ay,aA]) m Ck f Z Z Z Z Z λa f=> ?_
   have m:Mem W aw w (az::ib ad 31 [aa]::ib ae 41 [sn,sn]::ib ax 41 [ay,aA]::aB::H):=m.fr 3
   obtain⟨bk,bl,m,bm⟩:=Ow.stamp (RSl.mono (RI.mono _)) bi m
   have ac:=rd2 bl ac
   have bj:=Ow.mono (RSl.mono (RI.mono _)) bl bj
   have m:Mem W bk w (aB::ib ad 31 [aa]::ib ae 41 [sn,sn]::ib ax 41 [ay,aA]::H):=m.fr 3
   obtain⟨bn,bo,m,bp⟩:=Ow.stamp (RSl.mono (RI.mono _)) bj m
   have ac:=rd2 bo ac
   have bm:=rd2 bo bm
   have⟨bq,br,hd⟩:=bind_some hd
   refine AL f Z call35 (Wk.I1 m ac bm bp br) λbs bt bu w bv m bw a f=> ?_
   obtain⟨bx,bz,bA,bB,rfl,rfl,bC,bD⟩:=bw
   refine l_o f (A9 (f.e Z) Z) λa f=>l_o f (A9 (f.e Z) Z) λa f=>Az 3 0 (ds:=[bx,bA]) m sizeOf41 f Z Z Z (An (Ow.one1 0 m bC Z) (An (Ow.one1 1 m bD Z) AK)) Z (lb Z) Z λw m=>Ac f Z λa f=>Aa ?_
   refine Aq ?_
   have bE:=BY (P:=prog) 3 m Ck f (s:=2) rfl rfl rfl
   have m:=m.eraseAt 4
   have m:=m.eraseAt 3
   have m:=m.eraseAt 2
   obtain rfl:=sj hd
   exact⟨[(.agg #[bx,bA]),(.bool bq.2.2)],⟨bE,f.get _ _ Z,trivial⟩,f.d,_,[bz,bB],(gt ai (gt bh (gt bl (gt bo bv)))),m,_,_,_,_,Z,Z,bC,bD⟩
theorem Wk.X1 {v0:Value}{x0:LL}{x1:Int}(m:Mem W G w (H))(h0:R2 G v0 x0){y:(LI)}(hd:D.X1 x0 x1=some y):
  Calls prog 36 #[v0,(iv x1)] w (Res W G H (λG' Ho v=>∃r0:Value,∃i0:Itm,Ho=[i0]∧r0=v∧Ow R0 2 G' i0 r0 y)):=by
 refine Ar (args:=[v0,(iv x1)]) (N:=33) [.tmp 4] func36 Z Z (lb Z) Z λa f=> ?_
 unfold D.X1 at hd
 refine Ae ?_
 refine Ac f Z λa f=>Ay ?_
 refine AP (R:=R0) (xs:=([]:LI)) (RI.one _) m T26 f Z Z Z (by decide) (All2.nil _) λaa ab w a m ac f=>Ac f Z λa f=>Aa (Ag (Ae ?_))
 refine Ab f Z λa f=>AO underlying22 f Z Z h0 λa f=>Ai f Z Z Cf λa f=>Aa ?_
 rcases Af hd with⟨ad,hd⟩|⟨ad,hd⟩
 ·refine Al f Z ad ?_
  refine Ae ?_
  refine Ab f Z λa f=>Ac f Z λa f=>Aa ?_
  refine Aq ?_
  obtain rfl:=sj hd
  exact⟨[ab],f.g Z,f.d,_,[aa],gr,m,_,_,Z,Z,ac⟩
 ·refine Ah f Z ad ?_
  refine Am ?_
  refine Ag (Ae ?_)
  refine Ac f Z λa f=>Aa ?_
  have⟨ae,af,hd⟩:=bind_some hd
  refine AH (λa w=>∃q_61':LI,ae= .inl q_61'∧∃ag:LI,ag=q_61'∧∃(ah:GH) (ai:Value) (aj:Itm),GLe G ah∧Fr a 33 [(5,ai)]∧Mem W ah w (aj::H)∧Ow R0 2 ah aj ai ag) ?_ ?_
  ·refine Ak ?_
   refine AC (λak a w=>∃al:LI,∃am:Int,(al,am)=ak∧∃(an:GH) (ao:Value) (ap:Itm),GLe G an∧Fr a 33 [(0,v0),(1,(iv x1)),(5,ao),(6,(iv am))]∧Mem W an w (ap::H)∧Ow R0 2 an ap ao al) af ⟨_,_,Z,_,ab,aa,gr,f.k Z,m,ac⟩ ?_
   clear af f m
   rintro ak aq ar au a w ⟨al,am,rfl,an,ao,ap,av,f,m,aw⟩
   have h0:=rd2 av h0
   refine Ag (Ae ?_)
   refine Ab f Z λa f=>Ab f Z λa f=>AO underlying22 f Z Z h0 λa f=>Ai f Z Z AE λa f=>Aa ?_
   rcases Af ar with⟨ax,ar⟩|⟨ax,ar⟩
   ·refine Al f Z ax ?_
    refine Am ?_
    refine Ag (Ak (Ag (Ae ?_)))
    refine Ab f Z λa f=>Ab f Z λa f=> ?_
    have⟨ay,az,ar⟩:=bind_some ar
    refine A2 T22 f Z Z Z h0 az λaA aB a aC aD f=>Ax m AT f Z Z aC λa f=>AO underlying26 f Z Z aD λa f=>Ab f Z λa f=>Ai f Z Z B8 λa f=>Aa ?_
    rcases Af ar with⟨aE,ar⟩|⟨aE,ar⟩
    ·refine Al f Z aE ?_
     refine Ae ?_
     refine AP (R:=R0) (xs:=([]:LI)) (RI.one _) m T26 f Z Z Z (by decide) (All2.nil _) λaF aG w a m aH f=>Ac f Z λa f=>Aa ?_
     refine Aq ?_
     have m:=m.eraseAt 1
     obtain rfl:=sj ar
     obtain rfl:=au _ rfl
     obtain rfl:=sj hd
     exact⟨[aG],f.g Z,f.d,_,[aF],av,m,_,_,Z,Z,aH⟩
    ·refine Ah f Z aE ?_
     refine Am ?_
     refine Aj ?_
     refine Ab f Z λa f=>Ab f Z λa f=>Ab f Z λa f=> ?_
     have⟨aI,aJ,ar⟩:=bind_some ar
     refine A2 T22 f Z Z Z h0 aJ λaK aL a aM aN f=>Ax m AT f Z Z aM λa f=> ?_
     have⟨aO,aP,ar⟩:=bind_some ar
     refine AW (RI.one _) 0 m aw Z T26 Z (by decide) f Z Z Z (aN.src m) aP λaQ aR w a m aS f=>Ac f Z λa f=>Aa (Aj ?_)
     refine Ab f Z λa f=>Ai f Z Z Aw λa f=>Ac f Z λa f=>Aa ?_
     obtain rfl:=sj ar
     exact⟨_,Z,_,_,Z,_,aR,aQ,av,f.k Z,m,aS⟩
   ·refine Ah f Z ax ?_
    refine AA Z ?_
    obtain rfl:=sj ar
    obtain rfl:=au _ rfl
    exact⟨_,Z,_,Z,_,ao,ap,av,f.k Z,m,aw⟩
  ·rintro a w ⟨_,rfl,ag,rfl,ah,ai,aj,aT,f,m,aU⟩
   refine Ae ?_
   refine Ab f Z λa f=>Ac f Z λa f=>Aa ?_
   refine Aq ?_
   obtain rfl:=sj hd
   exact⟨[ai],f.g Z,f.d,_,[aj],aT,m,_,_,Z,Z,aU⟩
theorem Wk.A1 {v0:Value}{x0:LL}(m:Mem W G w (H))(h0:R2 G v0 x0){y:(LI)}(hd:D.A1 x0=some y):
  Calls prog 16 #[v0] w (Res W G H (λG' Ho v=>∃r0:Value,∃i0:Itm,Ho=[i0]∧r0=v∧Ow R0 2 G' i0 r0 y)):=by
 refine Ar (args:=[v0]) (N:=5) [.tmp 2] func16 Z Z (lb Z) Z λa f=> ?_
 unfold D.A1 at hd
 refine Ae ?_
 refine Ac f Z λa f=>Ay ?_
 refine Ab f Z λa f=> ?_
 have⟨aa,ab,hd⟩:=bind_some hd
 refine AL f Z call36 (Wk.X1 m h0 ab) λac ad ae w af m ag a f=> ?_
 obtain⟨ah,ai,rfl,rfl,aj⟩:=ag
 refine Ac f Z λa f=>Aa ?_
 refine Aq ?_
 obtain rfl:=sj hd
 exact⟨[ah],f.g Z,f.d,_,[ai],af,m,_,_,Z,Z,aj⟩
theorem Wk.Y1 {aa v1:Value}{ab:LL}{x1:LI}(m:Mem W G w (H))(ac:R2 G aa ab)(h1:R1 G v1 x1){y:((List Bool))}(hd:D.Y1 ab x1=some y):
  Calls prog 117 #[(.agg #[aa]),v1] w (Res W G H (λG' Ho v=>∃r0:Value,∃i0:Itm,Ho=[i0]∧r0=v∧Ow RB 4 G' i0 r0 y)):=by
 refine Ar (args:=[(.agg #[aa]),v1]) (N:=23) [.tmp 4] func117 Z Z (lb Z) Z λa f=> ?_
 unfold D.Y1 at hd
 refine Ae ?_
 refine Bi (cs:=[aa]) m f Z Z Z λad w a m f=>Ac f Z λa f=>Ay ?_
 refine AB 0 0 (ds:=[aa]) m Bj f Z Z Z Z Z λa f=> ?_
 have⟨ae,af,hd⟩:=bind_some hd
 refine A6 f Z call31 (Wk.a m ac af) λag w ah m a f=> ?_
 have h1:=rd1 ah h1
 have⟨ai,aj,hd⟩:=bind_some hd
 refine CU (R:=RB) m T85 Z (by decide) Z f Z Z Z aj λak al w a m am f=>Ac f Z λa f=>Aa (Ag (Ae ?_))
 refine Ac f Z λa f=>Aa ?_
 have⟨an,ao,hd⟩:=bind_some hd
 refine AH (λa w=>∃ap:List Bool,ap=an∧∃(aq:GH) (ar:Itm),GLe ag aq∧Fr a 23 [(5,al)]∧Mem W aq w (ar::H)∧Ow RB 4 aq ar al ap) ?_ ?_
 ·refine Ak ?_
  have m:=m.eraseAt 1
  refine AC (λau a w=>∃av:List Bool,∃aw:Int,(av,aw)=au∧∃(ax:GH) (ay:Itm),GLe ag ax∧Fr a 23 [(1,v1),(5,al),(6,(iv aw))]∧Mem W ax w (ay::H)∧Ow RB 4 ax ay al av) ao ⟨_,_,Z,_,ak,gr,f.k Z,m,am⟩ ?_
  clear ao f m
  rintro au az aA aB a w ⟨av,aw,rfl,ax,ay,aC,f,m,aD⟩
  have h1:=rd1 aC h1
  refine Ag (Ae ?_)
  refine Ab f Z λa f=>Ab f Z λa f=>AO underlying26 f Z Z h1 λa f=>Ai f Z Z AE λa f=>Aa ?_
  rcases Af aA with⟨aE,aA⟩|⟨aE,aA⟩
  ·refine Al f Z aE ?_
   refine Am ?_
   refine Ag (Ak (Aj ?_))
   refine Ab f Z λa f=>Ab f Z λa f=>Ab f Z λa f=> ?_
   have⟨aF,aG,aA⟩:=bind_some aA
   refine A2 T26 f Z Z Z h1 aG λaH aI a aJ aK f=> ?_
   subst aK
   refine Ax m Pl2 f Z Z aJ λa f=> ?_
   have⟨aL,aM,aA⟩:=bind_some aA
   refine AZ 0 m aD Z T85 f Z Z Z aM λaN a aO f=>AQ 0 m aD Z sizeOf4 f Z Z aO aM Z Z Z λaP w m aQ=>Aa (Aj ?_)
   refine Ab f Z λa f=>Ai f Z Z Aw λa f=>Ac f Z λa f=>Aa ?_
   obtain rfl:=sj aA
   exact⟨_,Z,_,_,Z,_,aP,aC,f.k Z,m,aQ⟩
  ·refine Ah f Z aE ?_
   refine AA Z ?_
   obtain rfl:=sj aA
   obtain rfl:=aB _ rfl
   exact⟨_,Z,_,ay,aC,f.k Z,m,aD⟩
 ·rintro a w ⟨ap,rfl,aq,ar,aR,f,m,aS⟩
  refine Ae ?_
  refine Ab f Z λa f=>Ac f Z λa f=>Aa ?_
  refine Aq ?_
  obtain rfl:=sj hd
  exact⟨[al],f.g Z,f.d,_,[ar],(gt ah aR),m,_,_,Z,Z,aS⟩
theorem Wk.n2 {aa v1:Value}{ab:LL}{x1:LI}(m:Mem W G w (H))(ac:R2 G aa ab)(h1:R1 G v1 x1){y:Int}(hd:D.n2 ab x1=some y):
  Calls prog 74 #[(.agg #[aa]),v1] w (Res W G H (λ_ Ho v=>Ho=[]∧v=(iv y))):=by
 refine Ar (args:=[(.agg #[aa]),v1]) (N:=22) [.tmp 4] func74 Z Z (lb Z) Z λa f=> ?_
 unfold D.n2 at hd
 refine Ae ?_
 refine Bi (cs:=[aa]) m f Z Z Z λad w a m f=>Ac f Z λa f=>Aa (Ag (Ae ?_))
 refine AB 0 0 (ds:=[aa]) m Bj f Z Z Z Z Z λa f=> ?_
 have⟨ae,af,hd⟩:=bind_some hd
 refine A6 f Z call32 (Wk.Q m ac af) λag w ah m a f=> ?_
 have ac:=rd2 ah ac
 have h1:=rd1 ah h1
 refine l_o f (Bv (f.e Z)) λa f=>Ab f Z λa f=> ?_
 have⟨ai,aj,hd⟩:=bind_some hd
 refine BH 6 (λa w=>∃ak,GLe ag ak∧Mem W ak w (ib ad 31 [aa]::H)∧Fr a 22 [(0,(.agg #[aa])),(1,v1),(2,(pb ad)),(5,(.agg #[aa])),(6,(.bool ae)),(7,(.bool (!ae))),(8,(.bool (!ae))),(14,(.bool ai))]) ?_ ?_
 ·rcases Af aj with⟨al,aj⟩|⟨al,aj⟩
  ·refine AG f al λa f=> ?_
   refine AG f al λa f=>AG f al λa f=>AG f al λa f=>AG f al λa f=>l_o f (A4 (f.e Z) al (f.e Z)) λa f=> ?_
   obtain rfl:=sj aj
   exact⟨_,gr,m,f.k Z⟩
  ·refine AF f al ?_
   refine Ab f Z λa f=>AF f al ?_
   refine AB 0 0 (ds:=[aa]) m Bj f Z Z Z Z Z λa f=>AF f al ?_
   have⟨am,an,aj⟩:=bind_some aj
   refine A6 f Z call31 (Wk.a m ac an) λao w ap m a f=> ?_
   have h1:=rd1 ap h1
   refine AF f al ?_
   have⟨aq,ar,aj⟩:=bind_some aj
   refine A6 f Z call62 (Wk.J m h1 ar) λau w av m a f=>AF f al ?_
   refine l_o f (Bv (f.e Z)) λa f=>l_o f (A5 (f.e Z) al (f.e Z)) λa f=> ?_
   obtain rfl:=sj aj
   exact⟨_,(gt ap av),m,f.k Z⟩
 ·rintro a w ⟨ak,aw,m,f⟩
  have ac:=rd2 aw ac
  have h1:=rd1 aw h1
  refine Aa ?_
  rcases Af hd with⟨ax,hd⟩|⟨ax,hd⟩
  ·refine Al f Z ax ?_
   refine Ae ?_
   refine Ac f Z λa f=>Aa ?_
   refine Aq ?_
   have m:Mem W ak w H:=Mem.drop (H':=[ib ad 31 [aa]]) m
   obtain rfl:=sj hd
   exact⟨[(iv (-1))],f.g Z,f.d,_,[],(gt ah aw),m,Z,Z⟩
  ·refine Ah f Z ax ?_
   refine Am ?_
   refine Ag ?_
   refine A3 6 AM (by kernel_rfl) m ?_
   refine BM (i:=0) (ds:=[aa]) 6 0 Bj Z Z Z Z (by kernel_rfl) Z f Z Z Z λa f=>BM (i:=1) (ds:=[aa]) 6 0 Bj Z Z Z Z (by kernel_rfl) Z f Z Z Z λa f=>Ao 2 6 Z f Z λa f=>BM (i:=4) (ds:=[aa]) 6 0 Bj Z Z Z Z (by kernel_rfl) Z f Z Z Z λa f=>Bp 3 Z λay w az m aA aA=> ?_
   have ac:=rd2 az ac
   have h1:=rd1 az h1
   have⟨aB,aC,hd⟩:=bind_some hd
   refine AL f Z call117 (Wk.Y1 m ac h1 aC) λaD aE aF w aG m aH a f=> ?_
   obtain⟨aI,aJ,rfl,rfl,aK⟩:=aH
   have ac:=rd2 aG ac
   refine Aa ?_
   refine aA aE [aJ] _ _ aG m ?_
   refine Bp 5 Z λaL w aM m aN aN=> ?_
   have ac:=rd2 aM ac
   have aK:=Ow.mono RB.mono aM aK
   have⟨aO,aP,hd⟩:=bind_some hd
   refine AL f Z call67 (Wk.u0 m ac aP) λaQ aR aS w aT m aU a f=> ?_
   obtain⟨aV,aW,rfl,rfl,aX⟩:=aU
   have ac:=rd2 aT ac
   have aK:=Ow.mono RB.mono aT aK
   refine Aa ?_
   refine aN aR [aW,aJ] _ _ aT m ?_
   refine AU λaY w aZ m=> ?_
   have ac:=rd2 aZ ac
   have aX:=od1 aZ aX
   have aK:=Ow.mono RB.mono aZ aK
   have m:=m.fr 1
   have⟨a0,a1,hd⟩:=bind_some hd
   refine AL f Z call68 (Wk.k m ac aK aX a1) λa2 a3 a4 w a5 m a6 a f=> ?_
   obtain⟨a7,a8,rfl,rfl,a9,ba⟩:=a6
   refine Ac f Z λa f=>Aa ?_
   refine Aq ?_
   have m:Mem W a3 w H:=Mem.drop (H':=[a7,a8,ib ad 31 [aa]]) m
   obtain rfl:=sj hd
   exact⟨[(iv a0.1)],f.g Z,f.d,_,[],(gt ah (gt aw (gt az (gt aG (gt aM (gt aT (gt aZ a5))))))),m,Z,Z⟩
theorem Wk.x1 {aa:Value}{ab:LL}(m:Mem W G w (H))(ac:R2 G aa ab){y:Int}(hd:D.x1 ab=some y):
  Calls prog 38 #[(.agg #[aa])] w (Res W G H (λ_ Ho v=>Ho=[]∧v=(iv y))):=by
 refine Ar (args:=[(.agg #[aa])]) (N:=6) [.tmp 2] func38 Z Z (lb Z) Z λa f=> ?_
 unfold D.x1 at hd
 refine Ae ?_
 refine Bi (cs:=[aa]) m f Z Z Z λad w a m f=>Ac f Z λa f=>Ay ?_
 refine AB 0 0 (ds:=[aa]) m Bj f Z Z Z Z Z λa f=>AP (R:=R0) (xs:=([]:LI)) (RI.one _) m T26 f Z Z Z (by decide) (All2.nil _) λae af w a m ag f=> ?_
 have⟨ah,ai,hd⟩:=bind_some hd
 refine AL f Z call74 (Ow.lendCall (RI.mono _) 0 ag m Z (λaj ak m al=>Wk.n2 m (rd2 ak ac) al ai) (λ_ _ _ _ h=>h)) λam an ao w ap m aq a f=> ?_
 obtain⟨rfl,rfl⟩:=aq
 refine Ac f Z λa f=>Aa ?_
 refine Aq ?_
 have m:Mem W an w H:=Mem.drop (H':=[ae,ib ad 31 [aa]]) m
 obtain rfl:=sj hd
 exact⟨[(iv ah)],f.g Z,f.d,_,[],ap,m,Z,Z⟩
theorem Wk.H1 {x0 x1:Int}(m:Mem W G w (H)){y:(LL)}(hd:D.H1 x0 x1=some y):
  Calls prog 37 #[(iv x0),(iv x1)] w (Res W G H (λG' Ho v=>∃r0:Value,∃i0:Itm,Ho=[i0]∧r0=v∧Ow R1 26 G' i0 r0 y)):=by
 refine Ar (args:=[(iv x0),(iv x1)]) (N:=63) [.tmp 4] func37 Z Z (lb Z) Z λa f=> ?_
 unfold D.H1 at hd
 refine Ae ?_
 refine Ac f Z λa f=>Ay ?_
 refine AP (R:=R0) (xs:=([]:LI)) (RI.one _) m T26 f Z Z Z (by decide) (All2.nil _) λaa ab w a m ac f=> ?_
 obtain⟨ad,ae,m,af⟩:=Ow.stamp (RI.mono _) ac m
 refine AP (R:=R1) (xs:=([([]:LI)]:LL)) (RSl.one _) m T22 f Z Z Z (by decide) (All2.cons af (All2.nil _)) λag ah w a m ai f=>Ac f Z λa f=>Aa (Ag (Ae ?_))
 refine Ac f Z λa f=>Aa ?_
 have⟨aj,ak,hd⟩:=bind_some hd
 refine AH (λa w=>∃al:LL,al=aj∧∃(am:GH) (an:Value) (ao:Itm),GLe ad am∧Fr a 63 [(5,an)]∧Mem W am w (ao::H)∧Ow R1 26 am ao an al) ?_ ?_
 ·refine Ak ?_
  refine AC (λap a w=>∃aq:LL,∃ar:Int,(aq,ar)=ap∧∃(au:GH) (av:Value) (aw:Itm),GLe ad au∧Fr a 63 [(0,(iv x0)),(1,(iv x1)),(5,av),(6,(iv ar))]∧Mem W au w (aw::H)∧Ow R1 26 au aw av aq) ak ⟨_,_,Z,_,ah,ag,gr,f.k Z,m,ai⟩ ?_
  clear ak f m
  rintro ap ax ay az a w ⟨aq,ar,rfl,au,av,aw,aA,f,m,aB⟩
  refine Ag (Ae ?_)
  refine Ab f Z λa f=>Ab f Z λa f=>Ai f Z Z AE λa f=>Aa ?_
  rcases Af ay with⟨aC,ay⟩|⟨aC,ay⟩
  ·refine Al f Z aC ?_
   refine Am ?_
   refine Ag (Ak (Ae ?_))
   refine AP (R:=R1) (xs:=([]:LL)) (RSl.one _) m T22 f Z Z Z (by decide) (All2.nil _) λaD aE w a m aF f=>Ac f Z λa f=>Aa (Ag (Ae ?_))
   refine Ac f Z λa f=>Aa ?_
   have⟨aG,aH,ay⟩:=bind_some ay
   refine AH (λa w=>∃aI:LL,aI=aG∧∃(aJ:GH) (aK:Value) (aL:Itm),GLe au aJ∧Fr a 63 [(0,(iv x0)),(1,(iv x1)),(6,(iv ar)),(7,aK)]∧Mem W aJ w (aL::H)∧Ow R1 26 aJ aL aK aI) ?_ ?_
   ·refine Ak ?_
    have m:=m.fr 1
    refine AC (λaM a w=>∃aN:LL,∃aO:Int,(aN,aO)=aM∧∃(aP:GH) (aQ:Value) (aR:Itm),GLe au aP∧Fr a 63 [(0,(iv x0)),(1,(iv x1)),(5,av),(6,(iv ar)),(7,aQ),(8,(iv aO))]∧Mem W aP w (aw::aR::H)∧Ow R1 26 aP aR aQ aN) aH ⟨_,_,Z,_,aE,aD,gr,f.k Z,m,aF⟩ ?_
    clear aH f m
    rintro aM aS aT aU a w ⟨aN,aO,rfl,aP,aQ,aR,aV,f,m,aW⟩
    have aB:=Ow.mono (RSl.mono (RI.mono _)) aV aB
    refine Ag (Ae ?_)
    refine Ab f Z λa f=>Ab f Z λa f=>BE 0 m aB Z underlying22 f Z Z λa f=>Ai f Z Z AE λa f=>Aa ?_
    rcases Af aT with⟨aX,aT⟩|⟨aX,aT⟩
    ·refine Al f Z aX ?_
     refine Am ?_
     refine Ag (Ak (Ae ?_))
     refine Ac f Z λa f=>Aa (Ag (Ae ?_))
     refine Ab f Z λa f=>Ab f Z λa f=> ?_
     have⟨aY,aZ,aT⟩:=bind_some aT
     refine AZ 0 m aB Z T22 f Z Z Z aZ λa0 a a1 f=>BA 0 m aB Z AT f Z Z a1 aZ λa2 a a3 f=>AO underlying26 f Z Z a3 λa f=>Ai f Z Z Cf λa f=>Aa ?_
     have⟨a4,a5,aT⟩:=bind_some aT
     refine AH (λa w=>∃a6:Int,a6=a4∧∃(a7:GH),GLe aP a7∧Fr a 63 [(0,(iv x0)),(1,(iv x1)),(5,av),(6,(iv ar)),(7,aQ),(8,(iv aO)),(9,(iv a6))]∧Mem W a7 w (aw::aR::H)) ?_ ?_
     ·rcases Af a5 with⟨a8,a5⟩|⟨a8,a5⟩
      ·refine Al f Z a8 ?_
       refine A3 14 AM (by kernel_rfl) m ?_
       refine Ao 0 14 Z f Z λa f=>Ao 1 14 Z f Z λa f=> ?_
       have⟨a9,ba,a5⟩:=bind_some a5
       refine A8 2 14 0 m aB T22 ba Z f Z Z λbb a bc f=>Bo 3 14 0 aB AT bc ba Z f Z λbd a be f=>Ao 4 14 Z f Z λa f=>Ao 5 14 Z f Z λa f=> ?_
       have⟨bf,bg,a5⟩:=bind_some a5
       refine A8 6 14 0 m aB T22 bg Z f Z Z λbh a bi f=>Bo 7 14 0 aB AT bi bg Z f Z λbj a bk f=>q_len (i:=8) 14 underlying26 bk Z (by kernel_rfl) Z f Z Z Z λa f=>q_p 9 14 Z f (λ_=>AV (f.e Z) (f.e Z) Bh) λa f=> ?_
       have⟨bl,bm,a5⟩:=bind_some a5
       refine BJ 10 14 T26 be bm Z f Z Z λbn bo a bp bq f=> ?_
       subst bq
       refine BI 11 14 Pl2 bp Z f Z λa f=>q_p 12 14 Z f (λ_=>AV (f.e Z) (f.e Z) Aw) λa f=>q_p 13 14 Z f (λ_=>Br (f.e Z)) λa f=>AU λbr w bs m=>Aa ?_
       obtain rfl:=sj a5
       exact⟨_,Z,_,bs,f.k Z,m⟩
      ·refine Ah f Z a8 ?_
       refine Am ?_
       obtain rfl:=sj a5
       exact⟨_,Z,_,gr,f.k Z,m⟩
     ·rintro a w ⟨a6,rfl,a7,bt,f,m⟩
      have aB:=Ow.mono (RSl.mono (RI.mono _)) bt aB
      have aW:=Ow.mono (RSl.mono (RI.mono _)) bt aW
      refine Ae ?_
      refine Ab f Z λa f=>Ac f Z λa f=>Aa ?_
      have⟨bu,bv,aT⟩:=bind_some aT
      refine AH (λa w=>∃bw:LL,bw=bu∧∃(bx:GH) (bz:Value) (bA:Itm),GLe a7 bx∧Fr a 63 [(0,(iv x0)),(1,(iv x1)),(5,av),(6,(iv ar)),(7,bz),(8,(iv aO))]∧Mem W bx w (aw::bA::H)∧Ow R1 26 bx bA bz bw) ?_ ?_
      ·refine Ak ?_
       refine AC (λbB a w=>∃bC:LL,∃bD:Int,(bC,bD)=bB∧∃(bE:GH) (bF:Value) (bG:Itm),GLe a7 bE∧Fr a 63 [(0,(iv x0)),(1,(iv x1)),(5,av),(6,(iv ar)),(7,bF),(8,(iv aO)),(10,(iv bD))]∧Mem W bE w (aw::bG::H)∧Ow R1 26 bE bG bF bC) bv ⟨_,_,Z,_,aQ,aR,gr,f.k Z,m,aW⟩ ?_
       clear bv f m
       rintro bB bH bI bJ a w ⟨bC,bD,rfl,bE,bF,bG,bK,f,m,bL⟩
       have aB:=Ow.mono (RSl.mono (RI.mono _)) bK aB
       refine Ag (Ae ?_)
       refine Ab f Z λa f=>Ab f Z λa f=>Ai f Z Z AE λa f=>Aa ?_
       rcases Af bI with⟨bM,bI⟩|⟨bM,bI⟩
       ·refine Al f Z bM ?_
        refine Am ?_
        refine Ag (Ak (Aj ?_))
        refine Ab f Z λa f=>Ab f Z λa f=>Ab f Z λa f=> ?_
        have⟨bN,bO,bI⟩:=bind_some bI
        refine AZ 0 m aB Z T22 f Z Z Z bO λbP a bQ f=>BA 0 m aB Z AT f Z Z bQ bO λbR a bS f=> ?_
        have⟨bT,bU,bI⟩:=bind_some bI
        refine AL f Z call43 (Wk.e m bS bU) λbV bW bX w bY m bZ a f=> ?_
        obtain⟨b0,b1,rfl,rfl,b2⟩:=bZ
        have bL:=Ow.mono (RSl.mono (RI.mono _)) bY bL
        refine Ab f Z λa f=>AP (R:=R0) (xs:=([bD]:LI)) (RI.one _) m T26 f Z Z Z (by decide) (All2.cons Z (All2.nil _)) λb3 b4 w a m b5 f=> ?_
        have⟨b6,b7,bI⟩:=bind_some bI
        refine AW (RI.one _) 1 m b2 Z T26 Z (by decide) f Z Z Z (Ow.src (j:=0) b5 m Z) b7 λb8 b9 w a m ca f=> ?_
        have m:=m.fr 1
        obtain⟨cb,cc,m,cd⟩:=Ow.stamp (RI.mono _) ca m
        have bL:=Ow.mono (RSl.mono (RI.mono _)) cc bL
        refine AP (R:=R1) (xs:=([b6]:LL)) (RSl.one _) m T22 f Z Z Z (by decide) (All2.cons cd (All2.nil _)) λce cf w a m cg f=> ?_
        have⟨ch,ci,bI⟩:=bind_some bI
        refine AW (RSl.one _) 3 m bL Z T22 Z (by decide) f Z Z Z (Ow.src (j:=0) cg m Z) ci λcj ck w a m cl f=>Ac f Z λa f=>Aa (Aj ?_)
        refine Ab f Z λa f=>Ai f Z Z Aw λa f=>Ac f Z λa f=>Aa ?_
        have m:=m.fr 3
        have m:=m.fr 3
        have m:Mem W cb w (aw::cj::ce::H):=m.eraseAt 3
        have m:=m.eraseAt 2
        obtain rfl:=sj bI
        exact⟨_,Z,_,_,Z,_,ck,cj,(gt bK (gt bY cc)),f.k Z,m,cl⟩
       ·refine Ah f Z bM ?_
        refine AA Z ?_
        obtain rfl:=sj bI
        obtain rfl:=bJ _ rfl
        exact⟨_,Z,_,bF,bG,bK,f.k Z,m,bL⟩
      ·rintro a w ⟨bw,rfl,bx,bz,bA,cm,f,m,cn⟩
       refine Aj ?_
       refine Ab f Z λa f=>Ai f Z Z Aw λa f=>Ac f Z λa f=>Aa ?_
       obtain rfl:=sj aT
       exact⟨_,Z,_,_,Z,_,bz,bA,(gt aV (gt bt cm)),f.k Z,m,cn⟩
    ·refine Ah f Z aX ?_
     refine AA Z ?_
     have m:=m.fr 1
     have m:=m.eraseAt 1
     obtain rfl:=sj aT
     obtain rfl:=aU _ rfl
     exact⟨_,Z,_,aQ,aR,aV,f.k Z,m,aW⟩
   ·rintro a w ⟨aI,rfl,aJ,aK,aL,co,f,m,cp⟩
    refine Aj ?_
    refine Ab f Z λa f=>Ac f Z λa f=>Aa (Aj ?_)
    refine Ab f Z λa f=>Ai f Z Z Aw λa f=>Ac f Z λa f=>Aa ?_
    obtain rfl:=sj ay
    exact⟨_,Z,_,_,Z,_,aK,aL,(gt aA co),f.k Z,m,cp⟩
  ·refine Ah f Z aC ?_
   refine AA Z ?_
   obtain rfl:=sj ay
   obtain rfl:=az _ rfl
   exact⟨_,Z,_,av,aw,aA,f.k Z,m,aB⟩
 ·rintro a w ⟨al,rfl,am,an,ao,cq,f,m,cr⟩
  refine Ae ?_
  refine Ab f Z λa f=>Ac f Z λa f=>Aa ?_
  refine Aq ?_
  obtain rfl:=sj hd
  exact⟨[an],f.g Z,f.d,_,[ao],(gt ae cq),m,_,_,Z,Z,cr⟩
theorem Wk.h1 {aa v2:Value}{ab:LL}{x1:Int}{x2:LI}(m:Mem W G w (H))(ac:R2 G aa ab)(h2:R1 G v2 x2){y:(LI)}(hd:D.h1 ab x1 x2=some y):
  Calls prog 118 #[(.agg #[aa]),(iv x1),v2] w (Res W G H (λG' Ho v=>∃r0:Value,∃i0:Itm,Ho=[i0]∧r0=v∧Ow R0 2 G' i0 r0 y)):=by
 refine Ar (args:=[(.agg #[aa]),(iv x1),v2]) (N:=91) [.tmp 6] func118 Z Z (lb Z) Z λa f=> ?_
 unfold D.h1 at hd
 refine Ae ?_
 refine Bi (cs:=[aa]) m f Z Z Z λad w a m f=>Ac f Z λa f=>Ay ?_
 refine AP (R:=R0) (xs:=([]:LI)) (RI.one _) m T26 f Z Z Z (by decide) (All2.nil _) λae af w a m ag f=>Ac f Z λa f=>Aa (Ag (Ae ?_))
 refine Ac f Z λa f=>Aa ?_
 have⟨ah,ai,hd⟩:=bind_some hd
 refine AH (λa w=>∃aj:LI,aj=ah∧∃(ak:GH) (al:Value) (am:Itm),GLe G ak∧Fr a 91 [(1,(iv x1)),(2,v2),(3,(pb ad)),(7,al)]∧Mem W ak w (ib ad 31 [aa]::am::H)∧Ow R0 2 ak am al aj) ?_ ?_
 ·refine Ak ?_
  have m:=m.fr 1
  refine AC (λan a w=>∃ao:LI,∃ap:Int,(ao,ap)=an∧∃(aq:GH) (ar:Value) (au:Itm),GLe G aq∧Fr a 91 [(1,(iv x1)),(2,v2),(3,(pb ad)),(7,ar),(8,(iv ap))]∧Mem W aq w (ib ad 31 [aa]::au::H)∧Ow R0 2 aq au ar ao) ai ⟨_,_,Z,_,af,ae,gr,f.k Z,m,ag⟩ ?_
  clear ai f m
  rintro an av aw ax a w ⟨ao,ap,rfl,aq,ar,au,ay,f,m,az⟩
  have ac:=rd2 ay ac
  refine Ag (Ae ?_)
  refine Ab f Z λa f=>AB 0 0 (ds:=[aa]) m Bj f Z Z Z Z Z λa f=> ?_
  have⟨aA,aB,aw⟩:=bind_some aw
  refine A6 f Z call31 (Wk.a m ac aB) λaC w aD m a f=> ?_
  have az:=od1 aD az
  refine Ai f Z Z AE λa f=>Aa ?_
  rcases Af aw with⟨aE,aw⟩|⟨aE,aw⟩
  ·refine Al f Z aE ?_
   refine Am ?_
   refine Ag (Ak (Aj ?_))
   refine Ab f Z λa f=>AP (R:=R0) (xs:=([(-1)]:LI)) (RI.one _) m T26 f Z Z Z (by decide) (All2.cons Z (All2.nil _)) λaF aG w a m aH f=> ?_
   have⟨aI,aJ,aw⟩:=bind_some aw
   refine AW (RI.one _) 2 m az Z T26 Z (by decide) f Z Z Z (Ow.src (j:=0) aH m Z) aJ λaK aL w a m aM f=>Ac f Z λa f=>Aa (Aj ?_)
   refine Ab f Z λa f=>Ai f Z Z Aw λa f=>Ac f Z λa f=>Aa ?_
   have m:=m.fr 2
   have m:=m.fr 2
   have m:=m.eraseAt 2
   obtain rfl:=sj aw
   exact⟨_,Z,_,_,Z,_,aL,aK,(gt ay aD),f.k Z,m,aM⟩
  ·refine Ah f Z aE ?_
   refine AA Z ?_
   obtain rfl:=sj aw
   obtain rfl:=ax _ rfl
   exact⟨_,Z,_,ar,au,(gt ay aD),f.k Z,m,az⟩
 ·rintro a w ⟨aj,rfl,ak,al,am,aN,f,m,aO⟩
  have h2:=rd1 aN h2
  have ac:=rd2 aN ac
  refine Ag (Ae ?_)
  refine Ab f Z λa f=>Ab f Z λa f=> ?_
  have⟨aP,aQ,hd⟩:=bind_some hd
  refine A6 f Z call39 (Wk.c m h2 aQ) λaR w aS m a f=> ?_
  have h2:=rd1 aS h2
  have ac:=rd2 aS ac
  have aO:=od1 aS aO
  refine l_o f (Bv (f.e Z)) λa f=>Aa ?_
  rcases Af hd with⟨aT,hd⟩|⟨aT,hd⟩
  ·refine Al f Z aT ?_
   refine Ae ?_
   refine Ab f Z λa f=>Ac f Z λa f=>Aa ?_
   refine Aq ?_
   have m:=m.fr 1
   have m:=m.eraseAt 1
   obtain rfl:=sj hd
   exact⟨[al],f.g Z,f.d,_,[am],(gt aN aS),m,_,_,Z,Z,aO⟩
  ·refine Ah f Z aT ?_
   refine Am ?_
   refine Ae ?_
   refine Ab f Z λa f=>Ab f Z λa f=> ?_
   have⟨aU,aV,hd⟩:=bind_some hd
   refine AZ 1 m aO Z T26 f Z Z Z aV λaW a aX f=>AQ 1 m aO Z sizeOf2 f Z Z aX aV Z Z Z λaY w m aZ=>Ay ?_
   refine Ab f Z λa f=>AP (R:=R0) (xs:=([x1]:LI)) (RI.one _) m T26 f Z Z Z (by decide) (All2.cons Z (All2.nil _)) λa0 a1 w a m a2 f=>Ac f Z λa f=>Aa (Ag (Ae ?_))
   refine Ac f Z λa f=>Aa ?_
   have⟨a3,a4,hd⟩:=bind_some hd
   refine AH (λa w=>∃a5:LI,a5=a3∧∃(a6:GH) (a7:Itm),GLe aR a6∧Fr a 91 [(7,al)]∧Mem W a6 w (a7::H)∧Ow R0 2 a6 a7 al a5) ?_ ?_
   ·refine Ak ?_
    have m:=m.fr 2
    have m:=m.fr 2
    refine AC (λa8 a w=>∃a9:LI,∃ba:LI,∃bb:Int,(a9,ba,bb)=a8∧∃(bc:GH) (bd:Itm) (be:Value) (bf:Itm),GLe aR bc∧Fr a 91 [(2,v2),(3,(pb ad)),(7,al),(9,be),(10,(iv bb))]∧Mem W bc w (ib ad 31 [aa]::bd::bf::H)∧Ow R0 2 bc bd al a9∧Ow R0 2 bc bf be ba) a4 ⟨_,_,_,Z,_,aY,a1,a0,gr,f.k Z,m,aZ,a2⟩ ?_
    clear a4 f m
    rintro a8 bg bh bi a w ⟨a9,ba,bb,rfl,bc,bd,be,bf,bj,f,m,bk,bl⟩
    have h2:=rd1 bj h2
    have ac:=rd2 bj ac
    refine Ag (Ae ?_)
    refine Ab f Z λa f=>Ab f Z λa f=>BE 2 m bl Z underlying26 f Z Z λa f=>Ai f Z Z AE λa f=>Aa ?_
    rcases Af bh with⟨bm,bh⟩|⟨bm,bh⟩
    ·refine Al f Z bm ?_
     refine Am ?_
     refine Ag (Ak (Ag ?_))
     refine A3 9 AM (by kernel_rfl) m ?_
     refine BW 0 9 underlying31 Z sizeOf22 Z f Z λa f=>BK 1 9 0 Bb Z Z Z f Z λa f=>Ao 2 9 Z f Z λa f=>Ao 3 9 Z f Z λa f=> ?_
     have⟨bn,bo,bh⟩:=bind_some bh
     refine A8 4 9 2 m bl T26 bo Z f Z Z λbp a bq f=>Bo 5 9 2 bl Pl2 bq bo Z f Z λbr a bs f=> ?_
     subst bs
     have⟨bt,bu,bh⟩:=bind_some bh
     refine BJ 6 9 T22 ac bu Z f Z Z λbv bw a bx bz f=>BI 7 9 AT bx Z f Z λa f=>q_p 8 9 Z f (λ_=>Br (f.e Z)) λa f=>AU λbA w bB m=> ?_
     have h2:=rd1 bB h2
     have bz:=rd1 bB bz
     have bk:=od1 bB bk
     have bl:=od1 bB bl
     refine Ay ?_
     refine Ac f Z λa f=>Aa ?_
     have⟨bC,bD,bh⟩:=bind_some bh
     refine AH (λa w=>∃bE:LI,∃bF:LI,(bE,bF)=bC∧∃(bG:GH) (bH:Itm) (bI:Value) (bJ:Itm),GLe bA bG∧Fr a 91 [(2,v2),(3,(pb ad)),(7,al),(9,bI),(10,(iv bb))]∧Mem W bG w (ib ad 31 [aa]::bH::bJ::H)∧Ow R0 2 bG bH al bE∧Ow R0 2 bG bJ bI bF) ?_ ?_
     ·refine Ak ?_
      refine AC (λbK a w=>∃bL:LI,∃bM:LI,∃bN:Int,(bL,bM,bN)=bK∧∃(bO:GH) (bP:Itm) (bQ:Value) (bR:Itm),GLe bA bO∧Fr a 91 [(2,v2),(3,(pb ad)),(7,al),(9,bQ),(10,(iv bb)),(11,bw),(12,(iv bN))]∧Mem W bO w (ib ad 31 [aa]::bP::bR::H)∧Ow R0 2 bO bP al bL∧Ow R0 2 bO bR bQ bM) bD ⟨_,_,_,Z,_,bd,be,bf,gr,f.k Z,m,bk,bl⟩ ?_
      clear bD f m
      rintro bK bS bT bU a w ⟨bL,bM,bN,rfl,bO,bP,bQ,bR,bV,f,m,bW,bX⟩
      have h2:=rd1 bV h2
      have bz:=rd1 bV bz
      refine Ag (Ae ?_)
      refine Ab f Z λa f=>Ab f Z λa f=>AO underlying26 f Z Z bz λa f=>Ai f Z Z AE λa f=>Aa ?_
      rcases Af bT with⟨bY,bT⟩|⟨bY,bT⟩
      ·refine Al f Z bY ?_
       refine Am ?_
       refine Ag (Ak (Ae ?_))
       refine Ab f Z λa f=>Ab f Z λa f=>Ab f Z λa f=> ?_
       have⟨bZ,b0,bT⟩:=bind_some bT
       refine A2 T26 f Z Z Z bz b0 λb1 b2 a b3 b4 f=> ?_
       subst b4
       refine Ax m Pl2 f Z Z b3 λa f=> ?_
       have⟨b5,b6,bT⟩:=bind_some bT
       refine AZ 1 m bW Z T26 f Z Z Z b6 λb7 a b8 f=>BA 1 m bW Z Pl2 f Z Z b8 b6 λb9 a ca f=> ?_
       subst ca
       refine Ai f Z Z AE λa f=>Ab f Z λa f=> ?_
       have⟨cb,cc,bT⟩:=bind_some bT
       refine BH 7 (λa w=>∃cd,GLe bO cd∧Mem W cd w (ib ad 31 [aa]::bP::bR::H)∧Fr a 91 [(2,v2),(3,(pb ad)),(7,al),(9,bQ),(10,(iv bb)),(11,bw),(12,(iv bN)),(50,(.bool (decide (bN<(bt.length:Int))))),(53,al),(54,bw),(55,(iv bN)),(56,b1),(57,(iv bZ)),(58,b7),(59,(iv b5)),(60,(.bool (decide (b5<0)))),(61,(.bool (decide (b5<0)))),(68,(.bool cb))]) ?_ ?_
       ·rcases Af cc with⟨ce,cc⟩|⟨ce,cc⟩
        ·refine AF f ce ?_
         refine Ab f Z λa f=>AF f ce ?_
         refine Ab f Z λa f=>AF f ce ?_
         refine Ab f Z λa f=>AF f ce ?_
         have⟨cf,cg,cc⟩:=bind_some cc
         refine A2 T26 f Z Z Z bz cg λch ci a cj ck f=> ?_
         subst ck
         refine AF f ce ?_
         refine Ax m Pl2 f Z Z cj λa f=>AF f ce ?_
         have⟨cl,cm,cc⟩:=bind_some cc
         refine A6 f Z call39 (Wk.c m h2 cm) λcn w co m a f=>l_o f (A4 (f.e Z) ce (f.e Z)) λa f=> ?_
         obtain rfl:=sj cc
         exact⟨_,co,m,f.k Z⟩
        ·refine AG f ce λa f=> ?_
         refine AG f ce λa f=>AG f ce λa f=>AG f ce λa f=>AG f ce λa f=>AG f ce λa f=>l_o f (A5 (f.e Z) ce (f.e Z)) λa f=> ?_
         obtain rfl:=sj cc
         exact⟨_,gr,m,f.k Z⟩
       ·rintro a w ⟨cd,cp,m,f⟩
        have bz:=rd1 cp bz
        have bW:=od1 cp bW
        have bX:=od1 cp bX
        refine Aa ?_
        rcases Af bT with⟨cq,bT⟩|⟨cq,bT⟩
        ·refine Al f Z cq ?_
         refine Ag ?_
         refine A3 14 AM (by kernel_rfl) m ?_
         refine Ao 0 14 Z f Z λa f=>Ao 1 14 Z f Z λa f=>Ao 2 14 Z f Z λa f=> ?_
         have⟨cr,ct,bT⟩:=bind_some bT
         refine BJ 3 14 T26 bz ct Z f Z Z λcu cv a cw cx f=> ?_
         subst cx
         refine BI 4 14 Pl2 cw Z f Z λa f=>Ao 5 14 Z f Z λa f=>Ao 6 14 Z f Z λa f=>Ao 7 14 Z f Z λa f=> ?_
         have⟨cy,cz,bT⟩:=bind_some bT
         refine A8 8 14 2 m bX T26 cz Z f Z Z λcA a cB f=>Bo 9 14 2 bX Pl2 cB cz Z f Z λcC a cD f=> ?_
         subst cD
         have⟨cE,cF,bT⟩:=bind_some bT
         refine A8 10 14 1 m bW T26 cF Z f Z Z λcG a cH f=>Bo 11 14 1 bW Pl2 cH cF Z f Z λcI a cJ f=> ?_
         subst cJ
         refine q_p 12 14 Z f (λ_=>AV (f.e Z) (f.e Z) Aw) λa f=> ?_
         have⟨cK,cL,bT⟩:=bind_some bT
         refine A8 13 14 1 m bW T26 cL Z f Z Z λcM a cN f=>AU λcO w cP m=> ?_
         have bz:=rd1 cP bz
         have bW:=od1 cP bW
         have bX:=od1 cP bX
         refine AQ 1 m bW Z sizeOf2 f Z Z cN cL Z Z Z λcQ w m cR=>Aa (Aj ?_)
         refine Ab f Z λa f=>Ab f Z λa f=>Ab f Z λa f=> ?_
         have⟨cS,cT,bT⟩:=bind_some bT
         refine A2 T26 f Z Z Z bz cT λcU cV a cW cX f=> ?_
         subst cX
         refine Ax m Pl2 f Z Z cW λa f=>AP (R:=R0) (xs:=([cS]:LI)) (RI.one _) m T26 f Z Z Z (by decide) (All2.cons Z (All2.nil _)) λcY cZ w a m c0 f=> ?_
         have⟨c1,c2,bT⟩:=bind_some bT
         refine AW (RI.one _) 3 m bX Z T26 Z (by decide) f Z Z Z (Ow.src (j:=0) c0 m Z) c2 λc3 c4 w a m c5 f=>Ac f Z λa f=>Aa (Aj ?_)
         refine Ab f Z λa f=>Ai f Z Z Aw λa f=>Ac f Z λa f=>Aa ?_
         have m:=m.fr 3
         have m:=m.fr 3
         have m:Mem W cO w (ib ad 31 [aa]::cQ::c3::cY::H):=m.fr 3
         have m:=m.eraseAt 3
         obtain rfl:=sj bT
         exact⟨_,Z,_,_,_,Z,_,cQ,c4,c3,(gt bV (gt cp cP)),f.k Z,m,cR,c5⟩
        ·refine Ah f Z cq ?_
         refine Am ?_
         refine Aj ?_
         refine Ab f Z λa f=>Ai f Z Z Aw λa f=>Ac f Z λa f=>Aa ?_
         obtain rfl:=sj bT
         exact⟨_,Z,_,_,_,Z,_,bP,bQ,bR,(gt bV cp),f.k Z,m,bW,bX⟩
      ·refine Ah f Z bY ?_
       refine AA Z ?_
       obtain rfl:=sj bT
       obtain rfl:=bU _ rfl
       exact⟨_,_,Z,_,bP,bQ,bR,bV,f.k Z,m,bW,bX⟩
     ·rintro a w ⟨bE,bF,rfl,bG,bH,bI,bJ,c6,f,m,c7,c8⟩
      refine Aj ?_
      refine Ab f Z λa f=>Ai f Z Z Aw λa f=>Ac f Z λa f=>Aa ?_
      obtain rfl:=sj bh
      exact⟨_,Z,_,_,_,Z,_,bH,bI,bJ,(gt bj (gt bB c6)),f.k Z,m,c7,c8⟩
    ·refine Ah f Z bm ?_
     refine AA Z ?_
     have m:=m.fr 1
     have m:=m.eraseAt 2
     have m:=m.eraseAt 1
     obtain rfl:=sj bh
     obtain rfl:=bi _ rfl
     exact⟨_,Z,_,bd,bj,f.k Z,m,bk⟩
   ·rintro a w ⟨a5,rfl,a6,a7,c9,f,m,da⟩
    refine Ae ?_
    refine Ab f Z λa f=>Ac f Z λa f=>Aa ?_
    refine Aq ?_
    obtain rfl:=sj hd
    exact⟨[al],f.g Z,f.d,_,[a7],(gt aN (gt aS c9)),m,_,_,Z,Z,da⟩
theorem Wk.s {aa v2:Value}{ab:LL}{x1:Int}{x2:LI}(m:Mem W G w (H))(ac:R2 G aa ab)(h2:R1 G v2 x2){y:(LI)}(hd:D.s ab x1 x2=some y):
  Calls prog 75 #[(.agg #[aa]),(iv x1),v2] w (Res W G H (λG' Ho v=>∃r0:Value,∃i0:Itm,Ho=[i0]∧r0=v∧Ow R0 2 G' i0 r0 y)):=by
 refine Ar (args:=[(.agg #[aa]),(iv x1),v2]) (N:=31) [.tmp 6] func75 Z Z (lb Z) Z λa f=> ?_
 unfold D.s at hd
 refine Ae ?_
 refine Bi (cs:=[aa]) m f Z Z Z λad w a m f=>Ac f Z λa f=>Ay ?_
 refine AB 0 0 (ds:=[aa]) m Bj f Z Z Z Z Z λa f=>Ab f Z λa f=>Ab f Z λa f=> ?_
 have⟨ae,af,hd⟩:=bind_some hd
 refine AL f Z call118 (Wk.h1 m ac h2 af) λag ah ai w aj m ak a f=> ?_
 obtain⟨al,am,rfl,rfl,an⟩:=ak
 refine Ac f Z λa f=>Ay ?_
 refine AP (R:=R0) (xs:=([]:LI)) (RI.one _) m T26 f Z Z Z (by decide) (All2.nil _) λao ap w a m aq f=>Ac f Z λa f=>Aa (Ag (Ae ?_))
 refine Ac f Z λa f=>Aa ?_
 have⟨ar,au,hd⟩:=bind_some hd
 refine AH (λa w=>∃av:LI,av=ar∧∃(aw:GH) (ax:Value) (ay:Itm),GLe ah aw∧Fr a 31 [(8,ax)]∧Mem W aw w (ay::H)∧Ow R0 2 aw ay ax av) ?_ ?_
 ·refine Ak ?_
  have m:=m.fr 1
  have m:=m.eraseAt 2
  refine AC (λaz a w=>∃aA:LI,∃aB:Int,(aA,aB)=az∧∃(aC:GH) (aD:Value) (aE:Itm),GLe ah aC∧Fr a 31 [(7,al),(8,aD),(9,(iv aB))]∧Mem W aC w (am::aE::H)∧Ow R0 2 aC aE aD aA) au ⟨_,_,Z,_,ap,ao,gr,f.k Z,m,aq⟩ ?_
  clear au f m
  rintro az aF aG aH a w ⟨aA,aB,rfl,aC,aD,aE,aI,f,m,aJ⟩
  have an:=od1 aI an
  refine Ag (Ae ?_)
  refine Ab f Z λa f=>Ab f Z λa f=>BE 0 m an Z underlying26 f Z Z λa f=>Ai f Z Z AE λa f=>Aa ?_
  rcases Af aG with⟨aK,aG⟩|⟨aK,aG⟩
  ·refine Al f Z aK ?_
   refine Am ?_
   refine Ag (Ak (Ae ?_))
   refine Ab f Z λa f=>Ab f Z λa f=> ?_
   have⟨aL,aM,aG⟩:=bind_some aG
   refine AZ 0 m an Z T26 f Z Z Z aM λaN a aO f=>BA 0 m an Z Pl2 f Z Z aO aM λaP a aQ f=> ?_
   subst aQ
   refine Ai f Z Z Cs λa f=>Aa ?_
   rcases Af aG with⟨aR,aG⟩|⟨aR,aG⟩
   ·refine Al f Z aR ?_
    refine Aj ?_
    refine Ab f Z λa f=>Ab f Z λa f=>AP (R:=R0) (xs:=([aB]:LI)) (RI.one _) m T26 f Z Z Z (by decide) (All2.cons Z (All2.nil _)) λaS aT w a m aU f=> ?_
    have⟨aV,aW,aG⟩:=bind_some aG
    refine AW (RI.one _) 2 m aJ Z T26 Z (by decide) f Z Z Z (Ow.src (j:=0) aU m Z) aW λaX aY w a m aZ f=>Ac f Z λa f=>Aa (Aj ?_)
    refine Ab f Z λa f=>Ai f Z Z Aw λa f=>Ac f Z λa f=>Aa ?_
    have m:=m.fr 2
    have m:=m.fr 2
    have m:=m.eraseAt 2
    obtain rfl:=sj aG
    exact⟨_,Z,_,_,Z,_,aY,aX,aI,f.k Z,m,aZ⟩
   ·refine Ah f Z aR ?_
    refine Am ?_
    refine Aj ?_
    refine Ab f Z λa f=>Ai f Z Z Aw λa f=>Ac f Z λa f=>Aa ?_
    obtain rfl:=sj aG
    exact⟨_,Z,_,_,Z,_,aD,aE,aI,f.k Z,m,aJ⟩
  ·refine Ah f Z aK ?_
   refine AA Z ?_
   have m:=m.fr 1
   have m:=m.eraseAt 1
   obtain rfl:=sj aG
   obtain rfl:=aH _ rfl
   exact⟨_,Z,_,aD,aE,aI,f.k Z,m,aJ⟩
 ·rintro a w ⟨av,rfl,aw,ax,ay,a0,f,m,a1⟩
  refine Ae ?_
  refine Ab f Z λa f=>Ac f Z λa f=>Aa ?_
  refine Aq ?_
  obtain rfl:=sj hd
  exact⟨[ax],f.g Z,f.d,_,[ay],(gt aj a0),m,_,_,Z,Z,a1⟩
theorem Wk.F0 {aa v1:Value}{ab:LL}{x1:LI}(m:Mem W G w (H))(ac:R2 G aa ab)(h1:R1 G v1 x1){y:(LL)}(hd:D.F0 ab x1=some y):
  Calls prog 40 #[(.agg #[aa]),v1] w (Res W G H (λG' Ho v=>∃r0:Value,∃i0:Itm,Ho=[i0]∧r0=v∧Ow R1 26 G' i0 r0 y)):=by
 refine Ar (args:=[(.agg #[aa]),v1]) (N:=39) [.tmp 4] func40 Z Z (lb Z) Z λa f=> ?_
 unfold D.F0 at hd
 refine Ae ?_
 refine Bi (cs:=[aa]) m f Z Z Z λad w a m f=>Ac f Z λa f=>Ay ?_
 refine AP (R:=R1) (xs:=([]:LL)) (RSl.one _) m T22 f Z Z Z (by decide) (All2.nil _) λae af w a m ag f=>Ac f Z λa f=>Ay ?_
 refine AP (R:=R0) (xs:=([]:LI)) (RI.one _) m T26 f Z Z Z (by decide) (All2.nil _) λah ai w a m aj f=>Ac f Z λa f=>Aa (Ag (Ae ?_))
 refine Ac f Z λa f=>Aa ?_
 have⟨ak,al,hd⟩:=bind_some hd
 refine AH (λa w=>∃am:LL,am=ak∧∃(an:GH) (ao:Value) (ap:Itm),GLe G an∧Fr a 39 [(5,ao)]∧Mem W an w (ap::H)∧Ow R1 26 an ap ao am) ?_ ?_
 ·refine Ak ?_
  have m:=m.fr 1
  have m:=m.fr 2
  refine AC (λaq a w=>∃ar:LL,∃au:LI,∃av:Int,(ar,au,av)=aq∧∃(aw:GH) (ax:Value) (ay:Itm) (az:Value) (aA:Itm),GLe G aw∧Fr a 39 [(1,v1),(2,(pb ad)),(5,ax),(6,az),(7,(iv av))]∧Mem W aw w (ib ad 31 [aa]::ay::aA::H)∧Ow R1 26 aw ay ax ar∧Ow R0 2 aw aA az au) al ⟨_,_,_,Z,_,af,ae,ai,ah,gr,f.k Z,m,ag,aj⟩ ?_
  clear al f m
  rintro aq aB aC aD a w ⟨ar,au,av,rfl,aw,ax,ay,az,aA,aE,f,m,aF,aG⟩
  have h1:=rd1 aE h1
  have ac:=rd2 aE ac
  refine Ag (Ae ?_)
  refine Ab f Z λa f=>Ab f Z λa f=>AO underlying26 f Z Z h1 λa f=>Ai f Z Z AE λa f=>Aa ?_
  rcases Af aC with⟨aH,aC⟩|⟨aH,aC⟩
  ·refine Al f Z aH ?_
   refine Am ?_
   refine Ag (Ak (Ae ?_))
   refine Ab f Z λa f=>Ab f Z λa f=>Ab f Z λa f=> ?_
   have⟨aI,aJ,aC⟩:=bind_some aC
   refine A2 T26 f Z Z Z h1 aJ λaK aL a aM aN f=> ?_
   subst aN
   refine Ax m Pl2 f Z Z aM λa f=> ?_
   have⟨aO,aP,aC⟩:=bind_some aC
   refine AL f Z call39 (Ow.lendCall (RI.mono _) 2 aG m Z (λaQ aR m aS=>Wk.c m aS aP) (λ_ _ _ _ h=>h)) λaT aU aV w aW m aX a f=> ?_
   obtain⟨rfl,rfl⟩:=aX
   have h1:=rd1 aW h1
   have ac:=rd2 aW ac
   have aF:=Ow.mono (RSl.mono (RI.mono _)) aW aF
   have aG:=od1 aW aG
   refine l_o f (Bv (f.e Z)) λa f=>Aa ?_
   rcases Af aC with⟨aY,aC⟩|⟨aY,aC⟩
   ·refine Al f Z aY ?_
    refine Ag ?_
    refine A3 8 AM (by kernel_rfl) m ?_
    refine BM (i:=0) (ds:=[aa]) 8 0 Bj Z Z Z Z (by kernel_rfl) Z f Z Z Z λa f=>Ao 1 8 Z f Z λa f=>Ao 2 8 Z f Z λa f=> ?_
    have⟨aZ,a0,aC⟩:=bind_some aC
    refine BJ 3 8 T26 h1 a0 Z f Z Z λa1 a2 a a3 a4 f=> ?_
    subst a4
    refine BI 4 8 Pl2 a3 Z f Z λa f=>Ao 5 8 Z f Z λa f=>Bp 6 Z λa5 w a6 m a7 a7=> ?_
    have h1:=rd1 a6 h1
    have ac:=rd2 a6 ac
    have aF:=Ow.mono (RSl.mono (RI.mono _)) a6 aF
    have aG:=od1 a6 aG
    have⟨a8,a9,aC⟩:=bind_some aC
    refine AL f Z call75 (Wk.s m ac h1 a9) λba bb bc w bd m be a f=> ?_
    obtain⟨bf,bg,rfl,rfl,bh⟩:=be
    have aF:=Ow.mono (RSl.mono (RI.mono _)) bd aF
    have aG:=od1 bd aG
    refine Aa ?_
    refine a7 bb [bg] _ _ bd m ?_
    refine q_p 7 8 Z f (λ_=>Br (f.e Z)) λa f=>AU λbi w bj m=> ?_
    have bh:=od1 bj bh
    have aF:=Ow.mono (RSl.mono (RI.mono _)) bj aF
    have aG:=od1 bj aG
    refine Ay ?_
    refine Ab f Z λa f=>Ab f Z λa f=> ?_
    obtain⟨bk,bl,m,bm⟩:=Ow.stamp (RI.mono _) bh m
    have aF:=Ow.mono (RSl.mono (RI.mono _)) bl aF
    have aG:=od1 bl aG
    refine AP (R:=R1) (xs:=([a8]:LL)) (RSl.one _) m T22 f Z Z Z (by decide) (All2.cons bm (All2.nil _)) λbn bo w a m bp f=> ?_
    have⟨bq,br,aC⟩:=bind_some aC
    refine AW (RSl.one _) 2 m aF Z T22 Z (by decide) f Z Z Z (Ow.src (j:=0) bp m Z) br λbs bt w a m bu f=>Ac f Z λa f=>Aa (Aj ?_)
    refine Ab f Z λa f=>Ab f Z λa f=> ?_
    have⟨bv,bw,aC⟩:=bind_some aC
    refine AW (RI.one _) 3 m aG Z T26 Z (by decide) f Z Z Z (bm.src m) bw λbx bz w a m bA f=>Ac f Z λa f=>Aa (Aj ?_)
    refine Ab f Z λa f=>Ai f Z Z Aw λa f=>Ac f Z λa f=>Aa ?_
    have m:=m.fr 3
    have m:=m.fr 3
    have m:Mem W bk w (ib ad 31 [aa]::bs::bx::bn::H):=m.fr 3
    have m:=m.eraseAt 3
    obtain rfl:=sj aC
    exact⟨_,Z,_,_,_,Z,_,bt,bs,bz,bx,(gt aE (gt aW (gt a6 (gt bd (gt bj bl))))),f.k Z,m,bu,bA⟩
   ·refine Ah f Z aY ?_
    refine Am ?_
    refine Aj ?_
    refine Ab f Z λa f=>Ai f Z Z Aw λa f=>Ac f Z λa f=>Aa ?_
    obtain rfl:=sj aC
    exact⟨_,Z,_,_,_,Z,_,ax,ay,az,aA,(gt aE aW),f.k Z,m,aF,aG⟩
  ·refine Ah f Z aH ?_
   refine AA Z ?_
   have m:=m.fr 1
   have m:=m.eraseAt 2
   have m:=m.eraseAt 1
   obtain rfl:=sj aC
   obtain rfl:=aD _ rfl
   exact⟨_,Z,_,ax,ay,aE,f.k Z,m,aF⟩
 ·rintro a w ⟨am,rfl,an,ao,ap,bB,f,m,bC⟩
  refine Ae ?_
  refine Ab f Z λa f=>Ac f Z λa f=>Aa ?_
  refine Aq ?_
  obtain rfl:=sj hd
  exact⟨[ao],f.g Z,f.d,_,[ap],bB,m,_,_,Z,Z,bC⟩
theorem Wk.r {aa:Value}{ab:LL}{x1 x2:Int}(m:Mem W G w (H))(ac:R2 G aa ab){y:Bool}(hd:D.r ab x1 x2=some y):
  Calls prog 141 #[(.agg #[aa]),(iv x1),(iv x2)] w (Res W G H (λ_ Ho v=>Ho=[]∧v=(.bool y))):=by
 refine Ar (args:=[(.agg #[aa]),(iv x1),(iv x2)]) (N:=14) [.tmp 6] func141 Z Z (lb Z) Z λa f=> ?_
 unfold D.r at hd
 refine Ae ?_
 refine Bi (cs:=[aa]) m f Z Z Z λad w a m f=>Ac f Z λa f=>Ay ?_
 refine Bu underlying31 Z sizeOf22 f Z λa f=>AJ 0 0 m Bb f Z Z Z Z λa f=>Ab f Z λa f=> ?_
 have⟨ae,af,hd⟩:=bind_some hd
 refine A2 T22 f Z Z Z ac af λag ah a ai aj f=>Ax m AT f Z Z ai λa f=>Ab f Z λa f=> ?_
 have⟨ak,al,hd⟩:=bind_some hd
 refine A6 f Z call39 (Wk.c m aj al) λam w an m a f=>Ac f Z λa f=>Aa ?_
 refine Aq ?_
 have m:Mem W am w H:=Mem.drop (H':=[ib ad 31 [aa]]) m
 obtain rfl:=sj hd
 exact⟨[(.bool ak)],f.g Z,f.d,_,[],an,m,Z,Z⟩
theorem Wk.f0 {aa v1:Value}{ab:LL}{x1:LI}{x2:Int}(m:Mem W G w (H))(ac:R2 G aa ab)(h1:R1 G v1 x1){y:Int}(hd:D.f0 ab x1 x2=some y):
  Calls prog 119 #[(.agg #[aa]),v1,(iv x2)] w (Res W G H (λ_ Ho v=>Ho=[]∧v=(iv y))):=by
 refine Ar (args:=[(.agg #[aa]),v1,(iv x2)]) (N:=26) [.tmp 6] func119 Z Z (lb Z) Z λa f=> ?_
 unfold D.f0 at hd
 refine Ae ?_
 refine Bi (cs:=[aa]) m f Z Z Z λad w a m f=>Ac f Z λa f=>Ay ?_
 refine Ac f Z λa f=>Aa (Ag (Ae ?_))
 refine Ac f Z λa f=>Aa ?_
 have⟨ae,af,hd⟩:=bind_some hd
 refine AH (λa w=>∃ag:Int,ag=ae∧∃(ah:GH),GLe G ah∧Fr a 26 [(7,(iv ag))]∧Mem W ah w (H)) ?_ ?_
 ·refine Ak ?_
  refine AC (λai a w=>∃aj:Int,∃ak:Int,(aj,ak)=ai∧∃(al:GH),GLe G al∧Fr a 26 [(1,v1),(2,(iv x2)),(3,(pb ad)),(7,(iv aj)),(8,(iv ak))]∧Mem W al w (ib ad 31 [aa]::H)) af ⟨_,_,Z,_,gr,f.k Z,m⟩ ?_
  clear af f m
  rintro ai am an ao a w ⟨aj,ak,rfl,al,ap,f,m⟩
  have h1:=rd1 ap h1
  have ac:=rd2 ap ac
  refine Ag (Ae ?_)
  refine Ab f Z λa f=>Ab f Z λa f=>AO underlying26 f Z Z h1 λa f=>Ai f Z Z AE λa f=>Aa ?_
  rcases Af an with⟨aq,an⟩|⟨aq,an⟩
  ·refine Al f Z aq ?_
   refine Am ?_
   refine Ag (Ak ?_)
   refine A3 11 AM (by kernel_rfl) m ?_
   refine Ao 0 11 Z f Z λa f=>BM (i:=1) (ds:=[aa]) 11 0 Bj Z Z Z Z (by kernel_rfl) Z f Z Z Z λa f=>Ao 2 11 Z f Z λa f=>Ao 3 11 Z f Z λa f=> ?_
   have⟨ar,au,an⟩:=bind_some an
   refine BJ 4 11 T26 h1 au Z f Z Z λav aw a ax ay f=> ?_
   subst ay
   refine BI 5 11 Pl2 ax Z f Z λa f=>Ao 6 11 Z f Z λa f=> ?_
   have⟨az,aA,an⟩:=bind_some an
   refine BX (i:=7) 11 Z (by kernel_rfl) Z f Z Z Z call141 (λ_ _ w aB m=>Wk.r m (rd2 aB ac) aA) λa f=> ?_
   have⟨aC,aD,an⟩:=bind_some an
   refine BX (i:=8) 11 Z (by kernel_rfl) Z f Z Z Z call116 (λ_ _ w aE m=>Wk.m m aD) λa f=>q_p 9 11 Z f (λ_=>AV (f.e Z) (f.e Z) Aw) λa f=>q_p 10 11 Z f (λ_=>Br (f.e Z)) λa f=>AU λaF w aG m=>Aa (Aj ?_)
   refine Ab f Z λa f=>Ai f Z Z Aw λa f=>Ac f Z λa f=>Aa ?_
   obtain rfl:=sj an
   exact⟨_,Z,_,_,Z,_,(gt ap aG),f.k Z,m⟩
  ·refine Ah f Z aq ?_
   refine AA Z ?_
   have m:Mem W al w H:=Mem.drop (H':=[ib ad 31 [aa]]) m
   obtain rfl:=sj an
   obtain rfl:=ao _ rfl
   exact⟨_,Z,_,ap,f.k Z,m⟩
 ·rintro a w ⟨ag,rfl,ah,aH,f,m⟩
  refine Ae ?_
  refine Ab f Z λa f=>Ac f Z λa f=>Aa ?_
  refine Aq ?_
  obtain rfl:=sj hd
  exact⟨[(iv ag)],f.g Z,f.d,_,[],aH,m,Z,Z⟩
theorem Wk.X {aa v1 v2:Value}{ab:LL}{x1 x2:LI}(m:Mem W G w (H))(ac:R2 G aa ab)(h1:R1 G v1 x1)(h2:R1 G v2 x2){y:Bool}(hd:D.X ab x1 x2=some y):
  Calls prog 76 #[(.agg #[aa]),v1,v2] w (Res W G H (λ_ Ho v=>Ho=[]∧v=(.bool y))):=by
 refine Ar (args:=[(.agg #[aa]),v1,v2]) (N:=30) [.tmp 6] func76 Z Z (lb Z) Z λa f=> ?_
 unfold D.X at hd
 refine Ae ?_
 refine Bi (cs:=[aa]) m f Z Z Z λad w a m f=>Ac f Z λa f=>Aa (Ag (Ae ?_))
 refine Ac f Z λa f=>Aa ?_
 have⟨ae,af,hd⟩:=bind_some hd
 refine AH (λa w=>∃q_75':Unit,ae= .inl q_75'∧∃(ag:GH),GLe G ag∧Fr a 30 []∧Mem W ag w (H)) ?_ ?_
 ·refine Ak ?_
  refine AC (λah a w=>∃ai:Int,ai=ah∧∃(aj:GH),GLe G aj∧Fr a 30 [(1,v1),(2,v2),(3,(pb ad)),(7,(iv ai))]∧Mem W aj w (ib ad 31 [aa]::H)) af ⟨_,Z,_,gr,f.k Z,m⟩ ?_
  clear af f m
  rintro ah ak al am a w ⟨ai,rfl,aj,an,f,m⟩
  have h1:=rd1 an h1
  have h2:=rd1 an h2
  have ac:=rd2 an ac
  refine Ag (Ae ?_)
  refine Ab f Z λa f=>Ab f Z λa f=>AO underlying26 f Z Z h1 λa f=>Ai f Z Z AE λa f=>Aa ?_
  rcases Af al with⟨ao,al⟩|⟨ao,al⟩
  ·refine Al f Z ao ?_
   refine Am ?_
   refine Ag (Ak (Ag ?_))
   refine A3 16 AM (by kernel_rfl) m ?_
   refine Ao 0 16 Z f Z λa f=>Ao 1 16 Z f Z λa f=>Ao 2 16 Z f Z λa f=> ?_
   have⟨ap,aq,al⟩:=bind_some al
   refine BJ 3 16 T26 h1 aq Z f Z Z λar au a av aw f=> ?_
   subst aw
   refine BI 4 16 Pl2 av Z f Z λa f=> ?_
   have⟨ax,ay,al⟩:=bind_some al
   refine BX (i:=5) 16 Z (by kernel_rfl) Z f Z Z Z call39 (λ_ _ w az m=>Wk.c m (rd1 az h2) ay) λa f=>Ao 6 16 Z f Z λa f=> ?_
   have⟨aA,aB,al⟩:=bind_some al
   refine CS (fuel':=0) (listed':= #[true,true,true,true,true,true,true,true,true,true,true,true,true,true,true,true]) (λa=>Fr a 30 [(1,v1),(2,v2),(3,(pb ad)),(7,(iv ai)),(11,(.bool (decide (ai<(x1.length:Int))))),(14,v2),(15,v1),(16,(iv ai)),(17,ar),(18,(iv ap)),(19,(.bool ax)),(20,(.bool ax)),(29,(.bool aA))]) ?_ ?_
   ·intro a f
    refine AU λaC w aD m=>Aa ?_
    rcases Af al with⟨aE,al⟩|⟨aE,al⟩
    ·refine Al f Z aE ?_
     refine Ae ?_
     refine Ac f Z λa f=>Aa ?_
     refine Aq ?_
     have m:Mem W aC w H:=Mem.drop (H':=[ib ad 31 [aa]]) m
     obtain rfl:=sj al
     obtain rfl:=am _ rfl
     obtain rfl:=sj hd
     exact⟨[(.bool true)],f.g Z,f.d,_,[],(gt an aD),m,Z,Z⟩
    ·refine Ah f Z aE ?_
     refine Am ?_
     refine Aj ?_
     refine Ab f Z λa f=>Ai f Z Z Aw λa f=>Ac f Z λa f=>Aa ?_
     obtain rfl:=sj al
     exact⟨_,Z,_,Z,_,(gt an aD),f.k Z,m⟩
   ·intro aF
    rcases Af aB with⟨aG,aB⟩|⟨aG,aB⟩
    ·refine AI 7 16 Z f aG λa f=> ?_
     refine AI 8 16 Z f aG λa f=>AI 9 16 Z f aG λa f=>AI 10 16 Z f aG λa f=>AI 11 16 Z f aG λa f=>AI 12 16 Z f aG λa f=>AI 13 16 Z f aG λa f=>AI 14 16 Z f aG λa f=>q_p 15 16 Z f (λ_=>A4 (f.e Z) aG (f.e Z)) λa f=> ?_
     obtain rfl:=sj aB
     exact aF _ (f.k Z)
    ·refine BM (i:=7) (ds:=[aa]) 16 0 Bj Z Z Z Z (by kernel_rfl) Z f (BN f Z Z Z aG) Z Z λa f=> ?_
     refine Ao (hw:=wo f aG) 8 16 Z f Z λa f=>Ao (hw:=wo f aG) 9 16 Z f Z λa f=>Ao (hw:=wo f aG) 10 16 Z f Z λa f=> ?_
     have⟨aH,aI,aB⟩:=bind_some aB
     refine BJ (hw:=wo f aG) 11 16 T26 h1 aI Z f Z Z λaJ aK a aL aM f=> ?_
     subst aM
     refine BI (hw:=wo f aG) 12 16 Pl2 aL Z f Z λa f=> ?_
     have⟨aN,aO,aB⟩:=bind_some aB
     refine BX (i:=13) 16 Z (by kernel_rfl) Z f (BN f Z Z Z aG) Z Z call119 (λ_ _ w aP m=>Wk.f0 m (rd2 aP ac) (rd1 aP h2) aO) λa f=>q_p (hw:=wo f aG) 14 16 Z f (λ_=>AV (f.e Z) (f.e Z) Cf) λa f=>q_p 15 16 Z f (λ_=>A5 (f.e Z) aG (f.e Z)) λa f=> ?_
     obtain rfl:=sj aB
     exact aF _ (f.k Z)
  ·refine Ah f Z ao ?_
   refine AA Z ?_
   have m:Mem W aj w H:=Mem.drop (H':=[ib ad 31 [aa]]) m
   obtain rfl:=sj al
   obtain rfl:=am _ rfl
   exact⟨_,Z,_,an,f.weak trivial,m⟩
 ·rintro a w ⟨_,rfl,ag,aQ,f,m⟩
  refine Ae ?_
  refine Ac f Z λa f=>Aa ?_
  refine Aq ?_
  obtain rfl:=sj hd
  exact⟨[(.bool false)],f.g Z,f.d,_,[],aQ,m,Z,Z⟩
theorem Wk.N {W:World}(n:Nat):∀{w:World} {G:GH} {H:List Itm} {aa v1 v2:Value} {ab:LL} {x1:(List LL)} {x2:LL} (m:Mem W G w (H)) (ac:R2 G aa ab) (h1:RSl R2 G v1 x1) (h2:R2 G v2 x2) {y:(LL)} (hd:D.N n ab x1 x2=some y),
  Calls prog 41 #[(.agg #[aa]),v1,v2] w (Res W G H (λG' Ho v=>∃r0:Value,Ho=[]∧r0=v∧R2 G' r0 y)):=by
 induction n with
 |zero=>intros;rename_i hd;simp[D.N] at hd
 |succ fuel ih=>
  intro w G H aa v1 v2 ab x1 x2 m ac h1 h2 y hd
  refine Ar (args:=[(.agg #[aa]),v1,v2]) (N:=66) [.tmp 6] func41 Z Z (lb Z) Z λa f=> ?_
  unfold D.N at hd
  refine Ae ?_
  refine Bi (cs:=[aa]) m f Z Z Z λad w a m f=>Ac f Z λa f=>Ay ?_
  refine Ab f Z λa f=>AO underlying22 f Z Z h2 λa f=>Ac f Z λa f=>Aa (Ag (Ae ?_))
  refine Ab f Z λa f=>Ab f Z λa f=>AO underlying56 f Z Z h1 λa f=>Ai f Z Z BS λa f=>Aa ?_
  rcases Af hd with⟨ae,hd⟩|⟨ae,hd⟩
  ·refine Al f Z ae ?_
   refine Ae ?_
   refine Ab f Z λa f=>Ac f Z λa f=>Aa ?_
   refine Aq ?_
   have m:Mem W G w H:=Mem.drop (H':=[ib ad 31 [aa]]) m
   obtain rfl:=sj hd
   exact⟨[v2],f.g Z,f.d,_,[],gr,m,_,Z,Z,h2⟩
  ·refine Ah f Z ae ?_
   refine Am ?_
   refine Ag (Ae ?_)
   refine Ac f Z λa f=>Aa ?_
   have⟨af,ag,hd⟩:=bind_some hd
   refine AH (λa w=>∃q_398':Unit,af= .inl q_398'∧∃(ah:GH),GLe G ah∧Fr a 66 []∧Mem W ah w (H)) ?_ ?_
   ·refine Ak ?_
    refine AC (λai a w=>∃aj:Int,aj=ai∧∃(ak:GH),GLe G ak∧Fr a 66 [(1,v1),(2,v2),(3,(pb ad)),(7,(iv (x2.length:Int))),(8,(iv aj))]∧Mem W ak w (ib ad 31 [aa]::H)) ag ⟨_,Z,_,gr,f.k Z,m⟩ ?_
    clear ag f m
    rintro ai al am an a w ⟨aj,rfl,ak,ao,f,m⟩
    have h1:=RSl.mono (RSl.mono (RSl.mono (RI.mono _))) _ _ _ _ ao h1
    have h2:=rd2 ao h2
    have ac:=rd2 ao ac
    refine Ag (Ae ?_)
    refine Ab f Z λa f=>Ab f Z λa f=>Ab f Z λa f=> ?_
    have⟨ap,aq,am⟩:=bind_some am
    refine A2 T56 f Z Z Z h1 aq λar au a av aw f=>Ax m Bb f Z Z av λa f=>AO underlying22 f Z Z aw λa f=>Ai f Z Z AE λa f=>Aa ?_
    rcases Af am with⟨ax,am⟩|⟨ax,am⟩
    ·refine Al f Z ax ?_
     refine Am ?_
     refine Ag (Ak (Ae ?_))
     refine Ab f Z λa f=>Ab f Z λa f=> ?_
     have⟨ay,az,am⟩:=bind_some am
     refine A2 T56 f Z Z Z h1 az λaA aB a aC aD f=>Ax m Bb f Z Z aC λa f=>Ab f Z λa f=> ?_
     have⟨aE,aF,am⟩:=bind_some am
     refine A2 T22 f Z Z Z aD aF λaG aH a aI aJ f=>Ax m AT f Z Z aI λa f=>Ac f Z λa f=>Ay ?_
     refine Ac f Z λa f=>Aa (Ag (Ae ?_))
     refine Ac f Z λa f=>Aa ?_
     have⟨aK,aL,am⟩:=bind_some am
     refine AH (λa w=>∃aM:Bool,aM=aK∧∃(aN:GH),GLe ak aN∧Fr a 66 [(1,v1),(2,v2),(3,(pb ad)),(7,(iv (x2.length:Int))),(8,(iv aj)),(9,aH),(10,(.bool aM))]∧Mem W aN w (ib ad 31 [aa]::H)) ?_ ?_
     ·refine Ak ?_
      refine AC (λaO a w=>∃aP:Bool,∃aQ:Int,(aP,aQ)=aO∧∃(aR:GH),GLe ak aR∧Fr a 66 [(1,v1),(2,v2),(3,(pb ad)),(7,(iv (x2.length:Int))),(8,(iv aj)),(9,aH),(10,(.bool aP)),(11,(iv aQ))]∧Mem W aR w (ib ad 31 [aa]::H)) aL ⟨_,_,Z,_,gr,f.k Z,m⟩ ?_
      clear aL f m
      rintro aO aS aT aU a w ⟨aP,aQ,rfl,aR,aV,f,m⟩
      have h2:=rd2 aV h2
      have aJ:=rd1 aV aJ
      have ac:=rd2 aV ac
      refine Ag (Ae ?_)
      refine Ab f Z λa f=>Ab f Z λa f=>Ai f Z Z AE λa f=>Ab f Z λa f=> ?_
      refine BH 2 (λa w=>∃aW,GLe aR aW∧Mem W aW w (ib ad 31 [aa]::H)∧Fr a 66 [(1,v1),(2,v2),(3,(pb ad)),(7,(iv (x2.length:Int))),(8,(iv aj)),(9,aH),(10,(.bool aP)),(11,(iv aQ)),(36,(iv aQ)),(37,(iv (x2.length:Int))),(38,(.bool (decide (aQ<(x2.length:Int))))),(39,(.bool (decide (aQ<(x2.length:Int))))),(41,(.bool ((decide (aQ<(x2.length:Int)))&&aP)))]) ?_ ?_
      ·rcases Bool.eq_false_or_eq_true (decide (aQ<(x2.length:Int))) with aX|aX
       ·refine AF f aX ?_
        refine Ab f Z λa f=>l_o f (A4 (f.e Z) aX (f.e Z)) λa f=> ?_
        exact⟨_,gr,m,f.weak ⟨Z,Z,Z,Z,Z,Z,Z,Z,Z,Z,Z,Z,by rw[aX];rfl,trivial⟩⟩
       ·refine AG f aX λa f=> ?_
        refine l_o f (A5 (f.e Z) aX (f.e Z)) λa f=> ?_
        exact⟨_,gr,m,f.weak ⟨Z,Z,Z,Z,Z,Z,Z,Z,Z,Z,Z,Z,by rw[aX];rfl,trivial⟩⟩
      ·rintro a w ⟨aW,aY,m,f⟩
       have h2:=rd2 aY h2
       have aJ:=rd1 aY aJ
       have ac:=rd2 aY ac
       refine Aa ?_
       rcases Af aT with⟨aZ,aT⟩|⟨aZ,aT⟩
       ·refine Al f Z aZ ?_
        refine Am ?_
        refine Ag (Ak ?_)
        refine A3 8 AM (by kernel_rfl) m ?_
        refine BM (i:=0) (ds:=[aa]) 8 0 Bj Z Z Z Z (by kernel_rfl) Z f Z Z Z λa f=>Ao 1 8 Z f Z λa f=>Ao 2 8 Z f Z λa f=> ?_
        have⟨a0,a1,aT⟩:=bind_some aT
        refine BJ 3 8 T22 h2 a1 Z f Z Z λa2 a3 a a4 a5 f=>BI 4 8 AT a4 Z f Z λa f=>Ao 5 8 Z f Z λa f=> ?_
        have⟨a6,a7,aT⟩:=bind_some aT
        refine BX (i:=6) 8 Z (by kernel_rfl) Z f Z Z Z call76 (λ_ _ w a8 m=>Wk.X m (rd2 a8 ac) (rd1 a8 a5) (rd1 a8 aJ) a7) λa f=>q_p 7 8 Z f (λ_=>Br (f.e Z)) λa f=>AU λa9 w ba m=>Aa (Aj ?_)
        refine Ab f Z λa f=>Ai f Z Z Aw λa f=>Ac f Z λa f=>Aa ?_
        obtain rfl:=sj aT
        exact⟨_,Z,_,_,Z,_,(gt aV (gt aY ba)),f.k Z,m⟩
       ·refine Ah f Z aZ ?_
        refine AA Z ?_
        obtain rfl:=sj aT
        obtain rfl:=aU _ rfl
        exact⟨_,Z,_,(gt aV aY),f.k Z,m⟩
     ·rintro a w ⟨aM,rfl,aN,bb,f,m⟩
      have h1:=RSl.mono (RSl.mono (RSl.mono (RI.mono _))) _ _ _ _ bb h1
      have h2:=rd2 bb h2
      have aJ:=rd1 bb aJ
      have ac:=rd2 bb ac
      refine Ae ?_
      refine Ab f Z λa f=>Aa ?_
      rcases Af am with⟨bc,am⟩|⟨bc,am⟩
      ·refine Al f Z bc ?_
       refine Ag ?_
       have⟨bd,be,am⟩:=bind_some am
       refine AH (λa w=>∃bf:LL,bf=bd∧∃(bg:GH) (bh:Value),GLe aN bg∧Fr a 66 [(1,v1),(2,v2),(3,(pb ad)),(7,(iv (x2.length:Int))),(8,(iv aj)),(12,bh)]∧Mem W bg w (ib ad 31 [aa]::H)∧R2 bg bh bf) ?_ ?_
       ·refine A3 8 AM (by kernel_rfl) m ?_
        refine BM (i:=0) (ds:=[aa]) 8 0 Bj Z Z Z Z (by kernel_rfl) Z f Z Z Z λa f=>Ao 1 8 Z f Z λa f=>Ao 3 8 Z f Z λa f=>Ao 5 8 Z f Z λa f=>CY (i:=2) (j:=6) (l1:= #[true,true,true,true,false,true,false,false,false,false]) (l2:= #[true,true,false,true,false,true,true,false,false,false]) Z Z (by kernel_rfl) Z Z ?_ ?_
        ·intro bi w bj m bk bk
         have h1:=RSl.mono (RSl.mono (RSl.mono (RI.mono _))) _ _ _ _ bj h1
         have h2:=rd2 bj h2
         have aJ:=rd1 bj aJ
         have ac:=rd2 bj ac
         refine AP (R:=R1) (xs:=([]:LL)) (RSl.one _) m T22 f Z Z Z (by decide) (All2.nil _) λbl bm w a m bn f=>Aa ?_
         refine bk bi [bl] _ _ gr m ?_
         refine CY (i:=4) (j:=6) (l1:= #[true,true,true,true,true,true,false,false,false,false]) (l2:= #[true,true,true,true,false,true,true,false,false,false]) Z Z (by kernel_rfl) Z Z ?_ ?_
         ·intro bo w bp m bq bq
          have h1:=RSl.mono (RSl.mono (RSl.mono (RI.mono _))) _ _ _ _ bp h1
          have h2:=rd2 bp h2
          have aJ:=rd1 bp aJ
          have ac:=rd2 bp ac
          have bn:=Ow.mono (RSl.mono (RI.mono _)) bp bn
          have⟨br,bs,be⟩:=bind_some be
          refine AW (RSl.one _) 0 m bn Z T22 Z (by decide) f Z Z Z (h2.src m) bs λbt bu w a m bv f=>Aa ?_
          refine bq bo [bt] _ _ gr m ?_
          refine Bp 6 Z λbw w bx m bz bz=> ?_
          have h1:=RSl.mono (RSl.mono (RSl.mono (RI.mono _))) _ _ _ _ bx h1
          have aJ:=rd1 bx aJ
          have ac:=rd2 bx ac
          have bv:=Ow.mono (RSl.mono (RI.mono _)) bx bv
          refine AP (R:=R1) (xs:=([aE]:LL)) (RSl.one _) m T22 f Z Z Z (by decide) (All2.cons aJ (All2.nil _)) λbA bB w a m bC f=>Aa ?_
          refine bz bw [bA,bt] _ _ gr m ?_
          refine Bp 7 Z λbD w bE m bF bF=> ?_
          have h1:=RSl.mono (RSl.mono (RSl.mono (RI.mono _))) _ _ _ _ bE h1
          have ac:=rd2 bE ac
          have bC:=Ow.mono (RSl.mono (RI.mono _)) bE bC
          have bv:=Ow.mono (RSl.mono (RI.mono _)) bE bv
          have⟨bG,bH,be⟩:=bind_some be
          refine AW (RSl.one _) 1 m bv Z T22 Z (by decide) f Z Z Z (Ow.src (j:=0) bC m Z) bH λbI bJ w a m bK f=>Aa ?_
          refine bF bD [bA,bI] _ _ gr m ?_
          refine AU λbL w bM m=> ?_
          have h1:=RSl.mono (RSl.mono (RSl.mono (RI.mono _))) _ _ _ _ bM h1
          have ac:=rd2 bM ac
          have bK:=Ow.mono (RSl.mono (RI.mono _)) bM bK
          have m:=m.fr 1
          obtain⟨bN,bO,m,bP⟩:=Ow.stamp (RSl.mono (RI.mono _)) bK m
          have h1:=RSl.mono (RSl.mono (RSl.mono (RI.mono _))) _ _ _ _ bO h1
          have ac:=rd2 bO ac
          have⟨bQ,bR,be⟩:=bind_some be
          refine AL f Z call41 (ih m ac h1 bP bR) λbS bT bU w bV m bW a f=> ?_
          obtain⟨bX,rfl,rfl,bY⟩:=bW
          refine Ac f Z λa f=>Aa ?_
          have m:=m.fr 1
          have m:=m.eraseAt 1
          obtain rfl:=sj be
          exact⟨_,Z,_,bX,(gt bj (gt bp (gt bx (gt bE (gt bM (gt bO bV)))))),f.k Z,m,bY⟩
         ·intro bw w bx m bz bz
          have⟨br,bs,be⟩:=bind_some be
          have⟨bG,bH,be⟩:=bind_some be
          have⟨bQ,bR,be⟩:=bind_some be
          have h1:=RSl.mono (RSl.mono (RSl.mono (RI.mono _))) _ _ _ _ bx h1
          have h2:=rd2 bx h2
          have aJ:=rd1 bx aJ
          have ac:=rd2 bx ac
          have bn:=Ow.mono (RSl.mono (RI.mono _)) bx bn
          refine AP (R:=R1) (xs:=([aE]:LL)) (RSl.one _) m T22 f Z Z Z (by decide) (All2.cons aJ (All2.nil _)) λbA bB w a m bC f=>Aa ?_
          refine bz bw [bA,bl] _ _ gr m ?_
          refine Bp 4 Z λbo w bp m bq bq=> ?_
          have h1:=RSl.mono (RSl.mono (RSl.mono (RI.mono _))) _ _ _ _ bp h1
          have h2:=rd2 bp h2
          have ac:=rd2 bp ac
          have bC:=Ow.mono (RSl.mono (RI.mono _)) bp bC
          have bn:=Ow.mono (RSl.mono (RI.mono _)) bp bn
          refine AW (RSl.one _) 1 m bn Z T22 Z (by decide) f Z Z Z (h2.src m) bs λbt bu w a m bv f=>Aa ?_
          refine bq bo [bA,bt] _ _ gr m ?_
          refine Bp 7 Z λbD w bE m bF bF=> ?_
          have h1:=RSl.mono (RSl.mono (RSl.mono (RI.mono _))) _ _ _ _ bE h1
          have ac:=rd2 bE ac
          have bC:=Ow.mono (RSl.mono (RI.mono _)) bE bC
          have bv:=Ow.mono (RSl.mono (RI.mono _)) bE bv
          refine AW (RSl.one _) 1 m bv Z T22 Z (by decide) f Z Z Z (Ow.src (j:=0) bC m Z) bH λbI bJ w a m bK f=>Aa ?_
          refine bF bD [bA,bI] _ _ gr m ?_
          refine AU λbL w bM m=> ?_
          have h1:=RSl.mono (RSl.mono (RSl.mono (RI.mono _))) _ _ _ _ bM h1
          have ac:=rd2 bM ac
          have bK:=Ow.mono (RSl.mono (RI.mono _)) bM bK
          have m:=m.fr 1
          obtain⟨bN,bO,m,bP⟩:=Ow.stamp (RSl.mono (RI.mono _)) bK m
          have h1:=RSl.mono (RSl.mono (RSl.mono (RI.mono _))) _ _ _ _ bO h1
          have ac:=rd2 bO ac
          refine AL f Z call41 (ih m ac h1 bP bR) λbS bT bU w bV m bW a f=> ?_
          obtain⟨bX,rfl,rfl,bY⟩:=bW
          refine Ac f Z λa f=>Aa ?_
          have m:=m.fr 1
          have m:=m.eraseAt 1
          obtain rfl:=sj be
          exact⟨_,Z,_,bX,(gt bj (gt bx (gt bp (gt bE (gt bM (gt bO bV)))))),f.k Z,m,bY⟩
        ·intro bw w bx m bz bz
         have⟨br,bs,be⟩:=bind_some be
         have⟨bG,bH,be⟩:=bind_some be
         have⟨bQ,bR,be⟩:=bind_some be
         have h1:=RSl.mono (RSl.mono (RSl.mono (RI.mono _))) _ _ _ _ bx h1
         have h2:=rd2 bx h2
         have aJ:=rd1 bx aJ
         have ac:=rd2 bx ac
         refine AP (R:=R1) (xs:=([aE]:LL)) (RSl.one _) m T22 f Z Z Z (by decide) (All2.cons aJ (All2.nil _)) λbA bB w a m bC f=>Aa ?_
         refine bz bw [bA] _ _ gr m ?_
         refine Bp 2 Z λbi w bj m bk bk=> ?_
         have h1:=RSl.mono (RSl.mono (RSl.mono (RI.mono _))) _ _ _ _ bj h1
         have h2:=rd2 bj h2
         have ac:=rd2 bj ac
         have bC:=Ow.mono (RSl.mono (RI.mono _)) bj bC
         refine AP (R:=R1) (xs:=([]:LL)) (RSl.one _) m T22 f Z Z Z (by decide) (All2.nil _) λbl bm w a m bn f=>Aa ?_
         refine bk bi [bl,bA] _ _ gr m ?_
         refine Bp 4 Z λbo w bp m bq bq=> ?_
         have h1:=RSl.mono (RSl.mono (RSl.mono (RI.mono _))) _ _ _ _ bp h1
         have h2:=rd2 bp h2
         have ac:=rd2 bp ac
         have bn:=Ow.mono (RSl.mono (RI.mono _)) bp bn
         have bC:=Ow.mono (RSl.mono (RI.mono _)) bp bC
         refine AW (RSl.one _) 0 m bn Z T22 Z (by decide) f Z Z Z (h2.src m) bs λbt bu w a m bv f=>Aa ?_
         refine bq bo [bt,bA] _ _ gr m ?_
         refine Bp 7 Z λbD w bE m bF bF=> ?_
         have h1:=RSl.mono (RSl.mono (RSl.mono (RI.mono _))) _ _ _ _ bE h1
         have ac:=rd2 bE ac
         have bv:=Ow.mono (RSl.mono (RI.mono _)) bE bv
         have bC:=Ow.mono (RSl.mono (RI.mono _)) bE bC
         refine AW (RSl.one _) 0 m bv Z T22 Z (by decide) f Z Z Z (Ow.src (j:=1) bC m Z) bH λbI bJ w a m bK f=>Aa ?_
         refine bF bD [bI,bA] _ _ gr m ?_
         refine AU λbL w bM m=> ?_
         have h1:=RSl.mono (RSl.mono (RSl.mono (RI.mono _))) _ _ _ _ bM h1
         have ac:=rd2 bM ac
         have bK:=Ow.mono (RSl.mono (RI.mono _)) bM bK
         obtain⟨bN,bO,m,bP⟩:=Ow.stamp (RSl.mono (RI.mono _)) bK m
         have h1:=RSl.mono (RSl.mono (RSl.mono (RI.mono _))) _ _ _ _ bO h1
         have ac:=rd2 bO ac
         refine AL f Z call41 (ih m ac h1 bP bR) λbS bT bU w bV m bW a f=> ?_
         obtain⟨bX,rfl,rfl,bY⟩:=bW
         refine Ac f Z λa f=>Aa ?_
         have m:=m.fr 1
         have m:=m.eraseAt 1
         obtain rfl:=sj be
         exact⟨_,Z,_,bX,(gt bx (gt bj (gt bp (gt bE (gt bM (gt bO bV)))))),f.k Z,m,bY⟩
       ·rintro a w ⟨bf,rfl,bg,bh,bZ,f,m,b0⟩
        refine Ae ?_
        refine Ab f Z λa f=>AO underlying22 f Z Z b0 λa f=>Ai f Z Z Cf λa f=>Aa ?_
        rcases Af am with⟨b1,am⟩|⟨b1,am⟩
        ·refine Al f Z b1 ?_
         refine Ae ?_
         refine Ab f Z λa f=>Ac f Z λa f=>Aa ?_
         refine Aq ?_
         have m:Mem W bg w H:=Mem.drop (H':=[ib ad 31 [aa]]) m
         obtain rfl:=sj am
         obtain rfl:=an _ rfl
         obtain rfl:=sj hd
         exact⟨[bh],f.g Z,f.d,_,[],(gt ao (gt bb bZ)),m,_,Z,Z,b0⟩
        ·refine Ah f Z b1 ?_
         refine Am ?_
         refine Aj ?_
         refine Ab f Z λa f=>Ai f Z Z Aw λa f=>Ac f Z λa f=>Aa ?_
         obtain rfl:=sj am
         exact⟨_,Z,_,Z,_,(gt ao (gt bb bZ)),f.k Z,m⟩
      ·refine Ah f Z bc ?_
       refine Am ?_
       refine Aj ?_
       refine Ab f Z λa f=>Ai f Z Z Aw λa f=>Ac f Z λa f=>Aa ?_
       obtain rfl:=sj am
       exact⟨_,Z,_,Z,_,(gt ao bb),f.k Z,m⟩
    ·refine Ah f Z ax ?_
     refine AA Z ?_
     have m:Mem W ak w H:=Mem.drop (H':=[ib ad 31 [aa]]) m
     obtain rfl:=sj am
     obtain rfl:=an _ rfl
     exact⟨_,Z,_,ao,f.weak trivial,m⟩
   ·rintro a w ⟨_,rfl,ah,b2,f,m⟩
    refine Ae ?_
    refine AP (R:=R1) (xs:=([]:LL)) (RSl.one _) m T22 f Z Z Z (by decide) (All2.nil _) λb3 b4 w a m b5 f=>Ac f Z λa f=>Aa ?_
    refine Aq ?_
    obtain⟨b6,b7,m,b8⟩:=Ow.stamp (RSl.mono (RI.mono _)) b5 m
    obtain rfl:=sj hd
    exact⟨[b4],f.g Z,f.d,_,[],(gt b2 b7),m,_,Z,Z,b8⟩
theorem Wk.q {aa v1 v2:Value}{ab:LL}{x1:(List LL)}{x2:LL}(m:Mem W G w (H))(ac:R2 G aa ab)(h1:RSl R2 G v1 x1)(h2:R2 G v2 x2){y:(LL)}(hd:D.q ab x1 x2=some y):
  Calls prog 41 #[(.agg #[aa]),v1,v2] w (Res W G H (λG' Ho v=>∃r0:Value,Ho=[]∧r0=v∧R2 G' r0 y)):=by
 exact Wk.N BL m ac h1 h2 hd
theorem Wk.l0 {v0 v1:Value}{x0 x1:LI}(m:Mem W G w (H))(h0:R1 G v0 x0)(h1:R1 G v1 x1){y:Bool}(hd:D.l0 x0 x1=some y):
  Calls prog 42 #[v0,v1] w (Res W G H (λ_ Ho v=>Ho=[]∧v=(.bool y))):=by
 refine Ar (args:=[v0,v1]) (N:=26) [.tmp 4] func42 Z Z (lb Z) Z λa f=> ?_
 unfold D.l0 at hd
 refine Ae ?_
 refine Ac f Z λa f=>Aa (Ag (Ae ?_))
 refine Ab f Z λa f=>AO underlying26 f Z Z h0 λa f=>Ab f Z λa f=>AO underlying26 f Z Z h1 λa f=>Ai f Z Z B8 λa f=>Aa ?_
 rcases Af hd with⟨aa,hd⟩|⟨aa,hd⟩
 ·refine Al f Z aa ?_
  refine Ae ?_
  refine Ac f Z λa f=>Aa ?_
  refine Aq ?_
  obtain rfl:=sj hd
  exact⟨[(.bool false)],f.g Z,f.d,_,[],gr,m,Z,Z⟩
 ·refine Ah f Z aa ?_
  refine Am ?_
  refine Ag (Ae ?_)
  refine Ac f Z λa f=>Aa ?_
  have⟨ab,ac,hd⟩:=bind_some hd
  refine AH (λa w=>∃q_36':Unit,ab= .inl q_36'∧∃(ad:GH),GLe G ad∧Fr a 26 []∧Mem W ad w (H)) ?_ ?_
  ·refine Ak ?_
   refine AC (λae a w=>∃af:Int,af=ae∧∃(ag:GH),GLe G ag∧Fr a 26 [(0,v0),(1,v1),(5,(iv af))]∧Mem W ag w (H)) ac ⟨_,Z,_,gr,f.k Z,m⟩ ?_
   clear ac f m
   rintro ae ah ai aj a w ⟨af,rfl,ag,ak,f,m⟩
   have h0:=rd1 ak h0
   have h1:=rd1 ak h1
   refine Ag (Ae ?_)
   refine Ab f Z λa f=>Ab f Z λa f=>AO underlying26 f Z Z h0 λa f=>Ai f Z Z AE λa f=>Aa ?_
   rcases Af ai with⟨al,ai⟩|⟨al,ai⟩
   ·refine Al f Z al ?_
    refine Am ?_
    refine Ag (Ak (Ag ?_))
    refine A3 9 AM (by kernel_rfl) m ?_
    refine Ao 0 9 Z f Z λa f=>Ao 1 9 Z f Z λa f=> ?_
    have⟨am,an,ai⟩:=bind_some ai
    refine BJ 2 9 T26 h0 an Z f Z Z λao ap a aq ar f=> ?_
    subst ar
    refine BI 3 9 Pl2 aq Z f Z λa f=>Ao 4 9 Z f Z λa f=>Ao 5 9 Z f Z λa f=> ?_
    have⟨au,av,ai⟩:=bind_some ai
    refine BJ 6 9 T26 h1 av Z f Z Z λaw ax a ay az f=> ?_
    subst az
    refine BI 7 9 Pl2 ay Z f Z λa f=>q_p 8 9 Z f (λ_=>AV (f.e Z) (f.e Z) B8) λa f=>AU λaA w aB m=>Aa ?_
    rcases Af ai with⟨aC,ai⟩|⟨aC,ai⟩
    ·refine Al f Z aC ?_
     refine Ae ?_
     refine Ac f Z λa f=>Aa ?_
     refine Aq ?_
     obtain rfl:=sj ai
     obtain rfl:=aj _ rfl
     obtain rfl:=sj hd
     exact⟨[(.bool false)],f.g Z,f.d,_,[],(gt ak aB),m,Z,Z⟩
    ·refine Ah f Z aC ?_
     refine Am ?_
     refine Aj ?_
     refine Ab f Z λa f=>Ai f Z Z Aw λa f=>Ac f Z λa f=>Aa ?_
     obtain rfl:=sj ai
     exact⟨_,Z,_,Z,_,(gt ak aB),f.k Z,m⟩
   ·refine Ah f Z al ?_
    refine AA Z ?_
    obtain rfl:=sj ai
    obtain rfl:=aj _ rfl
    exact⟨_,Z,_,ak,f.weak trivial,m⟩
  ·rintro a w ⟨_,rfl,ad,aD,f,m⟩
   refine Ae ?_
   refine Ac f Z λa f=>Aa ?_
   refine Aq ?_
   obtain rfl:=sj hd
   exact⟨[(.bool true)],f.g Z,f.d,_,[],aD,m,Z,Z⟩
theorem Wk.b0 {aa:Value}{ab:LL}(m:Mem W G w (H))(ac:R2 G aa ab){y:(LL)}(hd:D.b0 ab=some y):
  Calls prog 17 #[(.agg #[aa])] w (Res W G H (λG' Ho v=>∃r0:Value,∃i0:Itm,Ho=[i0]∧r0=v∧Ow R1 26 G' i0 r0 y)):=by
 refine Ar (args:=[(.agg #[aa])]) (N:=94) [.tmp 2] func17 Z Z (lb Z) Z λa f=> ?_
 unfold D.b0 at hd
 refine Ae ?_
 refine Bi (cs:=[aa]) m f Z Z Z λad w a m f=>Ac f Z λa f=>Ay ?_
 refine AP (R:=R1) (xs:=([]:LL)) (RSl.one _) m T22 f Z Z Z (by decide) (All2.nil _) λae af w a m ag f=>Ac f Z λa f=>Aa (Ag (Ae ?_))
 refine AB 1 0 (ds:=[aa]) m Bj f Z Z Z Z Z λa f=> ?_
 have⟨ah,ai,hd⟩:=bind_some hd
 refine A6 f Z call14 (Wk.S m ac ai) λaj w ak m a f=> ?_
 have ac:=rd2 ak ac
 have ag:=Ow.mono (RSl.mono (RI.mono _)) ak ag
 refine l_o f (Bv (f.e Z)) λa f=>Aa ?_
 rcases Af hd with⟨al,hd⟩|⟨al,hd⟩
 ·refine Al f Z al ?_
  refine Ae ?_
  refine Ab f Z λa f=>Ac f Z λa f=>Aa ?_
  refine Aq ?_
  have m:=m.eraseAt 1
  obtain rfl:=sj hd
  exact⟨[af],f.g Z,f.d,_,[ae],ak,m,_,_,Z,Z,ag⟩
 ·refine Ah f Z al ?_
  refine Am ?_
  refine Ae ?_
  refine AB 1 0 (ds:=[aa]) m Bj f Z Z Z Z Z λa f=> ?_
  have⟨am,an,hd⟩:=bind_some hd
  refine A6 f Z call31 (Wk.a m ac an) λao w ap m a f=> ?_
  have ac:=rd2 ap ac
  have ag:=Ow.mono (RSl.mono (RI.mono _)) ap ag
  refine Ac f Z λa f=>Ay ?_
  refine Ab f Z λa f=>AB 1 0 (ds:=[aa]) m Bj f Z Z Z Z Z λa f=> ?_
  have⟨aq,ar,hd⟩:=bind_some hd
  refine A6 f Z call38 (Wk.x1 m ac ar) λau w av m a f=> ?_
  have ac:=rd2 av ac
  have ag:=Ow.mono (RSl.mono (RI.mono _)) av ag
  have⟨aw,ax,hd⟩:=bind_some hd
  refine AL f Z call37 (Wk.H1 m ax) λay az aA w aB m aC a f=> ?_
  obtain⟨aD,aE,rfl,rfl,aF⟩:=aC
  have ac:=rd2 aB ac
  have ag:=Ow.mono (RSl.mono (RI.mono _)) aB ag
  refine Ac f Z λa f=>Ay ?_
  refine AP (R:=R2) (xs:=([]:List LL)) (RSl.one _) m T56 f Z Z Z (by decide) (All2.nil _) λaG aH w a m aI f=>Ac f Z λa f=>Aa (Ag (Ae ?_))
  refine Ac f Z λa f=>Aa ?_
  have⟨aJ,aK,hd⟩:=bind_some hd
  refine AH (λa w=>∃aL:List LL,aL=aJ∧∃(aM:GH) (aN:Value) (aO:Itm),GLe az aM∧Fr a 94 [(1,(pb ad)),(3,af),(6,aN)]∧Mem W aM w (ib ad 31 [aa]::ae::aO::H)∧Ow R2 22 aM aO aN aL) ?_ ?_
  ·refine Ak ?_
   have m:=m.fr 1
   have m:=m.fr 2
   have m:=m.fr 3
   refine AC (λaP a w=>∃aQ:List LL,∃aR:Int,(aQ,aR)=aP∧∃(aS:GH) (aT:Value) (aU:Itm),GLe az aS∧Fr a 94 [(1,(pb ad)),(3,af),(4,(iv am)),(5,aD),(6,aT),(7,(iv aR))]∧Mem W aS w (ib ad 31 [aa]::ae::aE::aU::H)∧Ow R2 22 aS aU aT aQ) aK ⟨_,_,Z,_,aH,aG,gr,f.k Z,m,aI⟩ ?_
   clear aK f m
   rintro aP aV aW aX a w ⟨aQ,aR,rfl,aS,aT,aU,aY,f,m,aZ⟩
   have ac:=rd2 aY ac
   have aF:=Ow.mono (RSl.mono (RI.mono _)) aY aF
   refine Ag (Ae ?_)
   refine Ab f Z λa f=>Ab f Z λa f=>BE 2 m aF Z underlying22 f Z Z λa f=>Ai f Z Z AE λa f=>Aa ?_
   rcases Af aW with⟨a0,aW⟩|⟨a0,aW⟩
   ·refine Al f Z a0 ?_
    refine Am ?_
    refine Ag (Ak (Ae ?_))
    refine AP (R:=R0) (xs:=([]:LI)) (RI.one _) m T26 f Z Z Z (by decide) (All2.nil _) λa1 a2 w a m a3 f=>Ac f Z λa f=>Aa (Ag (Ae ?_))
    refine Ac f Z λa f=>Aa ?_
    have⟨a4,a5,aW⟩:=bind_some aW
    refine AH (λa w=>∃a6:LI,a6=a4∧∃(a7:GH) (a8:Value) (a9:Itm),GLe aS a7∧Fr a 94 [(1,(pb ad)),(3,af),(4,(iv am)),(5,aD),(6,aT),(7,(iv aR)),(8,a8)]∧Mem W a7 w (ib ad 31 [aa]::ae::aE::aU::a9::H)∧Ow R0 2 a7 a9 a8 a6) ?_ ?_
    ·refine Ak ?_
     have m:=m.fr 4
     have m:=m.fr 4
     have m:Mem W aS w (ae::aE::aU::a1::ib ad 31 [aa]::H):=m.fr 4
     have m:=m.fr 4
     refine AC (λba a w=>∃bb:LI,∃bc:Int,(bb,bc)=ba∧∃(bd:GH) (be:Value) (bf:Itm),GLe aS bd∧Fr a 94 [(1,(pb ad)),(3,af),(4,(iv am)),(5,aD),(6,aT),(7,(iv aR)),(8,be),(9,(iv bc))]∧Mem W bd w (ib ad 31 [aa]::ae::aE::aU::bf::H)∧Ow R0 2 bd bf be bb) a5 ⟨_,_,Z,_,a2,a1,gr,f.k Z,m,a3⟩ ?_
     clear a5 f m
     rintro ba bg bh bi a w ⟨bb,bc,rfl,bd,be,bf,bj,f,m,bk⟩
     have aF:=Ow.mono (RSl.mono (RI.mono _)) bj aF
     refine Ag (Ae ?_)
     refine Ab f Z λa f=>Ab f Z λa f=>Ai f Z Z AE λa f=>Aa ?_
     rcases Af bh with⟨bl,bh⟩|⟨bl,bh⟩
     ·refine Al f Z bl ?_
      refine Am ?_
      refine Ag (Ak (Ae ?_))
      refine Ab f Z λa f=>Ab f Z λa f=> ?_
      have⟨bm,bn,bh⟩:=bind_some bh
      refine AZ 2 m aF Z T22 f Z Z Z bn λbo a bp f=>BA 2 m aF Z AT f Z Z bp bn λbq a br f=>Ab f Z λa f=> ?_
      have⟨bs,bt,bh⟩:=bind_some bh
      refine A6 f Z call39 (Wk.c m br bt) λbu w bv m a f=> ?_
      have bk:=od1 bv bk
      refine l_o f (Bv (f.e Z)) λa f=>Aa ?_
      rcases Af bh with⟨bw,bh⟩|⟨bw,bh⟩
      ·refine Al f Z bw ?_
       refine Aj ?_
       refine Ab f Z λa f=>Ab f Z λa f=>AP (R:=R0) (xs:=([bc]:LI)) (RI.one _) m T26 f Z Z Z (by decide) (All2.cons Z (All2.nil _)) λbx bz w a m bA f=> ?_
       have⟨bB,bC,bh⟩:=bind_some bh
       refine AW (RI.one _) 5 m bk Z T26 Z (by decide) f Z Z Z (Ow.src (j:=0) bA m Z) bC λbD bE w a m bF f=>Ac f Z λa f=>Aa (Aj ?_)
       refine Ab f Z λa f=>Ai f Z Z Aw λa f=>Ac f Z λa f=>Aa ?_
       have m:=m.fr 5
       have m:=m.fr 5
       have m:Mem W bu w (aE::aU::bD::bx::ib ad 31 [aa]::ae::H):=m.fr 5
       have m:=m.fr 5
       have m:=m.fr 5
       have m:=m.eraseAt 5
       obtain rfl:=sj bh
       exact⟨_,Z,_,_,Z,_,bE,bD,(gt bj bv),f.k Z,m,bF⟩
      ·refine Ah f Z bw ?_
       refine Am ?_
       refine Aj ?_
       refine Ab f Z λa f=>Ai f Z Z Aw λa f=>Ac f Z λa f=>Aa ?_
       obtain rfl:=sj bh
       exact⟨_,Z,_,_,Z,_,be,bf,(gt bj bv),f.k Z,m,bk⟩
     ·refine Ah f Z bl ?_
      refine AA Z ?_
      obtain rfl:=sj bh
      obtain rfl:=bi _ rfl
      exact⟨_,Z,_,be,bf,bj,f.k Z,m,bk⟩
    ·rintro a w ⟨a6,rfl,a7,a8,a9,bG,f,m,bH⟩
     have ac:=rd2 bG ac
     have aZ:=Ow.mono (RSl.mono (RSl.mono (RI.mono _))) bG aZ
     refine Aj ?_
     refine Ab f Z λa f=>AB 0 0 (ds:=[aa]) m Bj f Z Z Z Z Z λa f=>Ab f Z λa f=> ?_
     have m:=m.fr 4
     obtain⟨bI,bJ,m,bK⟩:=Ow.stamp (RI.mono _) bH m
     have ac:=rd2 bJ ac
     have aZ:=Ow.mono (RSl.mono (RSl.mono (RI.mono _))) bJ aZ
     have⟨bL,bM,aW⟩:=bind_some aW
     refine AL f Z call40 (Wk.F0 m ac bK bM) λbN bO bP w bQ m bR a f=> ?_
     obtain⟨bS,bT,rfl,rfl,bU⟩:=bR
     have aZ:=Ow.mono (RSl.mono (RSl.mono (RI.mono _))) bQ aZ
     obtain⟨bV,bW,m,bX⟩:=Ow.stamp (RSl.mono (RI.mono _)) bU m
     have aZ:=Ow.mono (RSl.mono (RSl.mono (RI.mono _))) bW aZ
     refine AP (R:=R2) (xs:=([bL]:List LL)) (RSl.one _) m T56 f Z Z Z (by decide) (All2.cons bX (All2.nil _)) λbY bZ w a m b0 f=> ?_
     have⟨b1,b2,aW⟩:=bind_some aW
     refine AW (RSl.one _) 4 m aZ Z T56 Z (by decide) f Z Z Z (Ow.src (j:=0) b0 m Z) b2 λb3 b4 w a m b5 f=>Ac f Z λa f=>Aa (Aj ?_)
     refine Ab f Z λa f=>Ai f Z Z Aw λa f=>Ac f Z λa f=>Aa ?_
     have m:=m.fr 4
     have m:=m.fr 4
     have m:Mem W bV w (ae::aE::b3::bY::ib ad 31 [aa]::H):=m.fr 4
     have m:=m.fr 4
     have m:=m.eraseAt 4
     obtain rfl:=sj aW
     exact⟨_,Z,_,_,Z,_,b4,b3,(gt aY (gt bG (gt bJ (gt bQ bW)))),f.k Z,m,b5⟩
   ·refine Ah f Z a0 ?_
    refine AA Z ?_
    have m:=m.fr 3
    have m:=m.fr 2
    have m:Mem W aS w (ib ad 31 [aa]::ae::aU::aE::H):=m.fr 2
    have m:=m.eraseAt 3
    obtain rfl:=sj aW
    obtain rfl:=aX _ rfl
    exact⟨_,Z,_,aT,aU,aY,f.k Z,m,aZ⟩
  ·rintro a w ⟨aL,rfl,aM,aN,aO,b6,f,m,b7⟩
   have ac:=rd2 b6 ac
   have ag:=Ow.mono (RSl.mono (RI.mono _)) b6 ag
   refine Ae ?_
   refine AB 0 0 (ds:=[aa]) m Bj f Z Z Z Z Z λa f=>Ab f Z λa f=>AP (R:=R1) (xs:=([]:LL)) (RSl.one _) m T22 f Z Z Z (by decide) (All2.nil _) λb8 b9 w a m ca f=> ?_
   have m:=m.fr 3
   obtain⟨cb,cc,m,cd⟩:=Ow.stamp (RSl.mono (RSl.mono (RI.mono _))) b7 m
   have ac:=rd2 cc ac
   have ca:=Ow.mono (RSl.mono (RI.mono _)) cc ca
   have ag:=Ow.mono (RSl.mono (RI.mono _)) cc ag
   obtain⟨ce,cf,m,cg⟩:=Ow.stamp (RSl.mono (RI.mono _)) ca m
   have cd:=RSl.mono (RSl.mono (RSl.mono (RI.mono _))) _ _ _ _ cf cd
   have ac:=rd2 cf ac
   have ag:=Ow.mono (RSl.mono (RI.mono _)) cf ag
   have⟨ch,ci,hd⟩:=bind_some hd
   refine AL f Z call41 (Wk.q m ac cd cg ci) λcj ck cl w cm m cn a f=> ?_
   obtain⟨co,rfl,rfl,cp⟩:=cn
   have ag:=Ow.mono (RSl.mono (RI.mono _)) cm ag
   refine Ac f Z λa f=>Aa (Ag (Ae ?_))
   refine Ac f Z λa f=>Aa ?_
   have⟨cq,cr,hd⟩:=bind_some hd
   refine AH (λa w=>∃ct:LL,ct=cq∧∃(cu:GH) (cv:Value) (cw:Itm),GLe ck cu∧Fr a 94 [(3,cv)]∧Mem W cu w (cw::H)∧Ow R1 26 cu cw cv ct) ?_ ?_
   ·refine Ak ?_
    have m:=m.fr 1
    have m:=m.eraseAt 1
    refine AC (λcx a w=>∃cy:LL,∃cz:Int,(cy,cz)=cx∧∃(cA:GH) (cB:Value) (cC:Itm),GLe ck cA∧Fr a 94 [(3,cB),(10,co),(11,(iv cz))]∧Mem W cA w (cC::H)∧Ow R1 26 cA cC cB cy) cr ⟨_,_,Z,_,af,ae,gr,f.k Z,m,ag⟩ ?_
    clear cr f m
    rintro cx cD cE cF a w ⟨cy,cz,rfl,cA,cB,cC,cG,f,m,cH⟩
    have cp:=rd2 cG cp
    refine Ag (Ae ?_)
    refine Ab f Z λa f=>Ab f Z λa f=>AO underlying22 f Z Z cp λa f=>Ai f Z Z AE λa f=>Aa ?_
    rcases Af cE with⟨cI,cE⟩|⟨cI,cE⟩
    ·refine Al f Z cI ?_
     refine Am ?_
     refine Ag (Ak (Ae ?_))
     refine Ac f Z λa f=>Aa (Ag (Ae ?_))
     refine Ac f Z λa f=>Aa ?_
     have⟨cJ,cK,cE⟩:=bind_some cE
     refine AH (λa w=>∃cL:Bool,cL=cJ∧∃(cM:GH),GLe cA cM∧Fr a 94 [(3,cB),(10,co),(11,(iv cz)),(12,(.bool cL))]∧Mem W cM w (cC::H)) ?_ ?_
     ·refine Ak ?_
      refine AC (λcN a w=>∃cO:Bool,∃cP:Int,(cO,cP)=cN∧∃(cQ:GH),GLe cA cQ∧Fr a 94 [(3,cB),(10,co),(11,(iv cz)),(12,(.bool cO)),(13,(iv cP))]∧Mem W cQ w (cC::H)) cK ⟨_,_,Z,_,gr,f.k Z,m⟩ ?_
      clear cK f m
      rintro cN cR cS cT a w ⟨cO,cP,rfl,cQ,cU,f,m⟩
      have cp:=rd2 cU cp
      have cH:=Ow.mono (RSl.mono (RI.mono _)) cU cH
      refine Ag (Ae ?_)
      refine Ab f Z λa f=>Ab f Z λa f=>BE 0 m cH Z underlying22 f Z Z λa f=>Ai f Z Z AE λa f=>Aa ?_
      rcases Af cS with⟨cV,cS⟩|⟨cV,cS⟩
      ·refine Al f Z cV ?_
       refine Am ?_
       refine Ag (Ak ?_)
       refine A3 13 AM (by kernel_rfl) m ?_
       refine Ao 0 13 Z f Z λa f=>Ao 1 13 Z f Z λa f=> ?_
       have⟨cW,cX,cS⟩:=bind_some cS
       refine CS (fuel':=1) (listed':= #[true,true,true,true,true,true,true,true,true,true,true,true,false]) (λa=>Fr a 94 [(3,cB),(10,co),(11,(iv cz)),(12,(.bool cO)),(13,(iv cP)),(68,(.bool (decide (cP<(cy.length:Int))))),(71,(.bool cO)),(72,(.bool cO)),(82,(.bool cW))]) ?_ ?_
       ·intro a f
        refine q_p 12 13 Z f (λ_=>Br (f.e Z)) λa f=>AU λcY w cZ m=>Aa (Aj ?_)
        refine Ab f Z λa f=>Ai f Z Z Aw λa f=>Ac f Z λa f=>Aa ?_
        obtain rfl:=sj cS
        exact⟨_,Z,_,_,Z,_,(gt cU cZ),f.k Z,m⟩
       ·intro c0
        rcases Af cX with⟨c1,cX⟩|⟨c1,cX⟩
        ·refine AI 2 13 Z f c1 λa f=> ?_
         refine AI 3 13 Z f c1 λa f=>AI 4 13 Z f c1 λa f=>AI 5 13 Z f c1 λa f=>AI 6 13 Z f c1 λa f=>AI 7 13 Z f c1 λa f=>AI 8 13 Z f c1 λa f=>AI 9 13 Z f c1 λa f=>AI 10 13 Z f c1 λa f=>q_p 11 13 Z f (λ_=>A4 (f.e Z) c1 (f.e Z)) λa f=> ?_
         obtain rfl:=sj cX
         exact c0 _ (f.k Z)
        ·refine Ao (hw:=wo f c1) 2 13 Z f Z λa f=> ?_
         refine Ao (hw:=wo f c1) 3 13 Z f Z λa f=> ?_
         have⟨c2,c3,cX⟩:=bind_some cX
         refine A8 (hw:=wo f c1) 4 13 0 m cH T22 c3 Z f Z Z λc4 a c5 f=>Bo (hw:=wo f c1) 5 13 0 cH AT c5 c3 Z f Z λc6 a c7 f=>Ao (hw:=wo f c1) 6 13 Z f Z λa f=>Ao (hw:=wo f c1) 7 13 Z f Z λa f=> ?_
         have⟨c8,c9,cX⟩:=bind_some cX
         refine BJ (hw:=wo f c1) 8 13 T22 cp c9 Z f Z Z λda db a dc dd f=>BI (hw:=wo f c1) 9 13 AT dc Z f Z λa f=> ?_
         have⟨de,df,cX⟩:=bind_some cX
         refine BX (i:=10) 13 Z (by kernel_rfl) Z f (BN f Z Z Z c1) Z Z call42 (λ_ _ w dg m=>Wk.l0 m (rd1 dg c7) (rd1 dg dd) df) λa f=>q_p 11 13 Z f (λ_=>A5 (f.e Z) c1 (f.e Z)) λa f=> ?_
         obtain rfl:=sj cX
         exact c0 _ (f.k Z)
      ·refine Ah f Z cV ?_
       refine AA Z ?_
       obtain rfl:=sj cS
       obtain rfl:=cT _ rfl
       exact⟨_,Z,_,cU,f.k Z,m⟩
     ·rintro a w ⟨cL,rfl,cM,dh,f,m⟩
      have cp:=rd2 dh cp
      have cH:=Ow.mono (RSl.mono (RI.mono _)) dh cH
      refine Ae ?_
      refine Ab f Z λa f=>l_o f (Bv (f.e Z)) λa f=>Aa ?_
      rcases Af cE with⟨di,cE⟩|⟨di,cE⟩
      ·refine Al f Z di ?_
       refine Aj ?_
       refine Ab f Z λa f=>Ab f Z λa f=>Ab f Z λa f=> ?_
       have⟨dj,dk,cE⟩:=bind_some cE
       refine A2 T22 f Z Z Z cp dk λdl dm a dn dp f=>Ax m AT f Z Z dn λa f=> ?_
       have⟨dq,dr,cE⟩:=bind_some cE
       refine AL f Z call43 (Wk.e m dp dr) λdt du dv w dw m dx a f=> ?_
       obtain⟨dy,dz,rfl,rfl,dA⟩:=dx
       have cH:=Ow.mono (RSl.mono (RI.mono _)) dw cH
       obtain⟨dB,dC,m,dD⟩:=Ow.stamp (RI.mono _) dA m
       have cH:=Ow.mono (RSl.mono (RI.mono _)) dC cH
       refine AP (R:=R1) (xs:=([dq]:LL)) (RSl.one _) m T22 f Z Z Z (by decide) (All2.cons dD (All2.nil _)) λdE dF w a m dG f=> ?_
       have⟨dH,dI,cE⟩:=bind_some cE
       refine AW (RSl.one _) 1 m cH Z T22 Z (by decide) f Z Z Z (Ow.src (j:=0) dG m Z) dI λdJ dK w a m dL f=>Ac f Z λa f=>Aa (Aj ?_)
       refine Ab f Z λa f=>Ai f Z Z Aw λa f=>Ac f Z λa f=>Aa ?_
       have m:=m.fr 1
       have m:=m.eraseAt 1
       obtain rfl:=sj cE
       exact⟨_,Z,_,_,Z,_,dK,dJ,(gt cG (gt dh (gt dw dC))),f.k Z,m,dL⟩
      ·refine Ah f Z di ?_
       refine Am ?_
       refine Aj ?_
       refine Ab f Z λa f=>Ai f Z Z Aw λa f=>Ac f Z λa f=>Aa ?_
       obtain rfl:=sj cE
       exact⟨_,Z,_,_,Z,_,cB,cC,(gt cG dh),f.k Z,m,cH⟩
    ·refine Ah f Z cI ?_
     refine AA Z ?_
     obtain rfl:=sj cE
     obtain rfl:=cF _ rfl
     exact⟨_,Z,_,cB,cC,cG,f.k Z,m,cH⟩
   ·rintro a w ⟨ct,rfl,cu,cv,cw,dM,f,m,dN⟩
    refine Ae ?_
    refine Ab f Z λa f=>Ac f Z λa f=>Aa ?_
    refine Aq ?_
    obtain rfl:=sj hd
    exact⟨[cv],f.g Z,f.d,_,[cw],(gt ak (gt ap (gt av (gt aB (gt b6 (gt cc (gt cf (gt cm dM)))))))),m,_,_,Z,Z,dN⟩
end Go.Proofs.YtkoehcencogjpaaGreatDoor

set_option maxRecDepth 100000
namespace Go.Proofs.YtkoehcencogjpaaGreatDoor
open Go Go.Sx
open Go.Proofs.Tryz Go.Proofs.YtkoehcencogjpaaGreatDoor.Tryz IntKind
variable {W w : World} {G : GH} {H : List Itm}
theorem Cv :Agg prog 28 3:=⟨isAgg28,sizeOf28⟩
theorem T62 :SlT prog 62 74 1 4 (.int .u32 0):=⟨underlying62,Tryz.t74,by kernel_rfl,by kernel_rfl,by kernel_rfl,by kernel_rfl⟩
theorem T66 :SlT prog 66 3 1 8 (iv 0):=⟨underlying66,Tryz.t3,by kernel_rfl,by kernel_rfl,by kernel_rfl,by kernel_rfl⟩
theorem Pl3 :B4 prog 3:=isAgg3
theorem Wk.w1 {aa:Value}{ab:LL}(m:Mem W G w (H))(ac:R2 G aa ab){y:Int×(LI)×(LL)×Int×(LI)×(LL)×Bool}(hd:D.w1 ab=some y):
  Calls prog 5 #[(.agg #[aa])] w (Res W G H (λG' Ho v=>∃r0:Value,∃i0:Itm,∃r2:Value,∃i2:Itm,∃r4:Value,∃i4:Itm,∃r6:Value,∃i6:Itm,Ho=[i0,i2,i4,i6]∧v= .tuple #[(.agg #[(iv y.1),r0,r2]),(.agg #[(iv y.2.2.2.1),r4,r6]),(.bool y.2.2.2.2.2.2)]∧Ow R0 2 G' i0 r0 y.2.1∧Ow R1 26 G' i2 r2 y.2.2.1∧Ow R0 2 G' i4 r4 y.2.2.2.2.1∧Ow R1 26 G' i6 r6 y.2.2.2.2.2.1)):=by
 refine Ar (args:=[(.agg #[aa])]) (N:=26) [.cell 2 28,.cell 3 28,.tmp 4] func5 Z Z (lb Z) Z λa f=> ?_
 unfold D.w1 at hd
 refine Ae ?_
 refine Bi (cs:=[aa]) m f Z Z Z λad w a m f=>Bm (cs:=[(iv 0),sn,sn]) zeroValue28 m f Z Z λae w a m f=>Bm (cs:=[(iv 0),sn,sn]) zeroValue28 m f Z Z λaf w a m f=>Ac f Z λa f=>Aa (Ag (Ae ?_))
 refine AB 2 0 (ds:=[aa]) m Bj f Z Z Z Z Z λa f=> ?_
 have⟨ag,ah,hd⟩:=bind_some hd
 refine A6 f Z call14 (Wk.S m ac ah) λai w aj m a f=> ?_
 have ac:=rd2 aj ac
 refine l_o f (Bv (f.e Z)) λa f=>Aa ?_
 rcases Af hd with⟨ak,hd⟩|⟨ak,hd⟩
 ·refine Al f Z ak ?_
  refine Ae ?_
  have al:∀w,(Instr.build 28 #[]).run prog w= .ok (.agg #[(iv 0),sn,sn]) w:=by intro w;simp[Instr.build,Instr.fill,Bz,Bn,Bc,Bk,A7,Bx]
  refine BG f Z Z al λa f=> ?_
  have am:∀w,(Instr.build 28 #[]).run prog w= .ok (.agg #[(iv 0),sn,sn]) w:=by intro w;simp[Instr.build,Instr.fill,Bz,Bn,Bc,Bk,A7,Bx]
  refine BG f Z Z am λa f=>Az 1 0 (ds:=[(iv 0),sn,sn]) m sizeOf28 f Z Z Z (An Z (An Z (An Z AK))) Z (lb Z) Z λw m=>Az 0 0 (ds:=[(iv 0),sn,sn]) m sizeOf28 f Z Z Z (An Z (An Z (An Z AK))) Z (lb Z) Z λw m=>Ac f Z λa f=>Aa ?_
  refine Aq ?_
  obtain⟨an,m,ao⟩:=Ow.nil R0 2 m
  obtain⟨ap,m,aq⟩:=Ow.nil R1 26 m
  obtain⟨ar,m,au⟩:=Ow.nil R0 2 m
  obtain⟨av,m,aw⟩:=Ow.nil R1 26 m
  have ax:=BY (P:=prog) 5 m Cv f (s:=2) rfl rfl rfl
  have ay:=BY (P:=prog) 4 m Cv f (s:=3) rfl rfl rfl
  have m:=m.fr 1
  have m:=m.fr 2
  have m:Mem W ai w (an::ap::ar::av::ib af 28 [(iv 0),sn,sn]::ib ae 28 [(iv 0),sn,sn]::ib ad 31 [aa]::H):=m.fr 3
  have m:=m.eraseAt 6
  have m:=m.eraseAt 5
  have m:=m.eraseAt 4
  obtain rfl:=sj hd
  exact⟨[(.agg #[(iv 0),sn,sn]),(.agg #[(iv 0),sn,sn]),(.bool false)],⟨ax,ay,f.get _ _ Z,trivial⟩,f.d,_,[an,ap,ar,av],aj,m,_,_,_,_,_,_,_,_,Z,Z,ao,aq,au,aw⟩
 ·refine Ah f Z ak ?_
  refine Am ?_
  refine Ae ?_
  refine AB 2 0 (ds:=[aa]) m Bj f Z Z Z Z Z λa f=> ?_
  have⟨az,aA,hd⟩:=bind_some hd
  refine AL f Z call15 (Wk.q0 m ac aA) λaB aC aD w aE m aF a f=> ?_
  obtain⟨aG,aH,aI,aJ,rfl,rfl,aK,aL⟩:=aF
  have ac:=rd2 aE ac
  refine Ab f Z λa f=>l_o f (A9 (f.e Z) Z) λa f=>l_o f (A9 (f.e Z) Z) λa f=>Bm (cs:=[sn,sn]) zeroValue41 m f Z Z λaM w a m f=>Az 0 0 (ds:=[aG,aI]) m sizeOf41 f Z Z Z (An (Ow.one1 1 m aK Z) (An (Ow.one1 2 m aL Z) AK)) Z (lb Z) Z λw m=>Ac f Z λa f=>Aa (Ag ?_)
  have⟨aN,aO,hd⟩:=bind_some hd
  refine AH (λa w=>∃aP:LI,∃aQ:LL,(aP,aQ)=aN∧∃(aR:GH) (aS:Value) (aT:Itm) (aU:Value) (aV:Itm),GLe aC aR∧Fr a 26 [(2,(pb ae)),(3,(pb af)),(4,(.bool true))]∧Mem W aR w (ib ae 28 [(iv 20),aS,aG]::ib af 28 [(iv 21),sn,aU]::aT::aH::aV::H)∧Ow R0 2 aR aT aS aP∧Ow R1 26 aR aV aU aQ) ?_ ?_
  ·have m:Mem W aC w (ib ae 28 [(iv 0),sn,sn]::ib aM 41 [aG,aI]::aH::aJ::ib af 28 [(iv 0),sn,sn]::ib ad 31 [aa]::H):=m.fr 4
   refine k_drawE [ib ae 28 [(iv 0),sn,sn]] (ib aM 41 [aG,aI]::aH::aJ::ib af 28 [(iv 0),sn,sn]::ib ad 31 [aa]::H) 10 AM (by kernel_rfl) m ?_
   refine BW 0 10 underlying41 Z sizeOf22 Z f Z λa f=>BK 1 10 0 Bb Z Z Z f Z λa f=>BW 3 10 underlying41 Z sizeOf22 Z f Z λa f=>BK 4 10 0 Bb Z Z Z f Z λa f=>BM (i:=6) (ds:=[aa]) 10 4 Bj Z Z Z Z (by kernel_rfl) Z f Z Z Z λa f=>Bp 2 Z λaW w aX m aY aY=> ?_
   have ac:=rd2 aX ac
   have aK:=Ow.mono (RSl.mono (RI.mono _)) aX aK
   have aL:=Ow.mono (RSl.mono (RI.mono _)) aX aL
   have⟨aZ,a2,aO⟩:=bind_some aO
   refine AL f Z call16 (Ow.lendCall (RSl.mono (RI.mono _)) 3 aL m Z (λa3 a4 m a5=>Wk.A1 m a5 a2) (λ_ G' _ _ ⟨a0,a1,e1,e2,o0⟩=>⟨a0,a1,e1,e2,Ow.free (RI.free _) G' o0⟩)) λa6 a7 a8 w a9 m ba a f=> ?_
   obtain⟨bb,bc,rfl,rfl,bd⟩:=ba
   have ac:=rd2 a9 ac
   have aK:=Ow.mono (RSl.mono (RI.mono _)) a9 aK
   refine Aa ?_
   refine aY a7 [bc,ib ae 28 [(iv 0),sn,sn]] _ _ a9 m ?_
   refine CY (i:=5) (j:=7) (l1:= #[true,true,true,true,true,true,true,false,false,false,false,false]) (l2:= #[true,true,true,true,true,false,true,true,false,false,false,false]) Z Z (by kernel_rfl) Z Z ?_ ?_
   ·intro be w bf m bg bg
    have ac:=rd2 bf ac
    have bd:=od1 bf bd
    have aK:=Ow.mono (RSl.mono (RI.mono _)) bf aK
    have bh:∀w,(Instr.build 28 #[(0,(iv 20)),(1,bb),(2,aG)]).run prog w= .ok (.agg #[(iv 20),bb,aG]) w:=by intro w;simp[Instr.build,Instr.fill,(Ow.cells 0 m bd rfl),(Ow.cells 3 m aK rfl),Bz,Bn,Bc,Bk,A7,Bx]
    refine BG f Z Z bh λa f=>Aa ?_
    refine bg be [bc,ib ae 28 [(iv 0),sn,sn]] _ _ gr m ?_
    refine Bp 7 Z λbi w bj m bk bk=> ?_
    have ac:=rd2 bj ac
    have bd:=od1 bj bd
    have aK:=Ow.mono (RSl.mono (RI.mono _)) bj aK
    have⟨bl,bm,aO⟩:=bind_some aO
    refine AL f Z call17 (Wk.b0 m ac bm) λbn bo bp w bq m br a f=> ?_
    obtain⟨bs,bt,rfl,rfl,bu⟩:=br
    have bd:=od1 bq bd
    have aK:=Ow.mono (RSl.mono (RI.mono _)) bq aK
    refine Aa ?_
    refine bk bo [bt,bc,ib ae 28 [(iv 0),sn,sn]] _ _ bq m ?_
    refine CY (i:=8) (j:=9) (l1:= #[true,true,true,true,true,true,true,true,true,false,false,false]) (l2:= #[true,true,true,true,true,true,true,true,false,true,false,false]) Z Z (by kernel_rfl) Z Z ?_ ?_
    ·intro bv w bw m bx bx
     have bu:=Ow.mono (RSl.mono (RI.mono _)) bw bu
     have bd:=od1 bw bd
     have aK:=Ow.mono (RSl.mono (RI.mono _)) bw aK
     have bz:∀w,(Instr.build 28 #[(0,(iv 21)),(2,bs)]).run prog w= .ok (.agg #[(iv 21),sn,bs]) w:=by intro w;simp[Instr.build,Instr.fill,(Ow.cells 0 m bu rfl),Bz,Bn,Bc,Bk,A7,Bx]
     refine BG f Z Z bz λa f=>Aa ?_
     refine bx bv [bt,bc,ib ae 28 [(iv 0),sn,sn]] _ _ gr m ?_
     refine Bp 9 Z λbA w bB m bC bC=> ?_
     have bu:=Ow.mono (RSl.mono (RI.mono _)) bB bu
     have bd:=od1 bB bd
     have aK:=Ow.mono (RSl.mono (RI.mono _)) bB aK
     refine Az 2 0 (ds:=[(iv 20),bb,aG]) m sizeOf28 f Z Z Z (An Z (An (Ow.one1 1 m bd Z) (An (Ow.one1 4 m aK Z) AK))) Z (lb Z) Z λw m=>Aa ?_
     refine bC bA [bt,bc,ib ae 28 [(iv 20),bb,aG]] _ _ gr m ?_
     refine AU λbD w bE m=> ?_
     have bu:=Ow.mono (RSl.mono (RI.mono _)) bE bu
     have bd:=od1 bE bd
     refine Az 6 0 (ds:=[(iv 21),sn,bs]) m sizeOf28 f Z Z Z (An Z (An Z (An (Ow.one1 0 m bu Z) AK))) Z (lb Z) Z λw m=>Ac f Z λa f=>Aa ?_
     have m:=m.fr 4
     have m:=m.fr 2
     have m:Mem W bD w (ib af 28 [(iv 21),sn,bs]::bc::aH::bt::ib ae 28 [(iv 20),bb,aG]::ib aM 41 [aG,aI]::aJ::ib ad 31 [aa]::H):=m.fr 6
     have m:=m.fr 4
     have m:=m.fr 6
     have m:Mem W bD w (bt::aJ::ib ae 28 [(iv 20),bb,aG]::ib af 28 [(iv 21),sn,bs]::bc::aH::ib aM 41 [aG,aI]::ib ad 31 [aa]::H):=m.fr 5
     have m:=m.fr 5
     have m:=m.fr 5
     have m:Mem W bD w (ib af 28 [(iv 21),sn,bs]::bc::aH::bt::aJ::ib ae 28 [(iv 20),bb,aG]::ib aM 41 [aG,aI]::ib ad 31 [aa]::H):=m.fr 5
     have m:=m.fr 5
     have m:=m.eraseAt 7
     have m:Mem W bD w (ib ae 28 [(iv 20),bb,aG]::ib af 28 [(iv 21),sn,bs]::bc::aH::bt::aJ::H):=m.eraseAt 6
     have m:Mem W bD w (ib ae 28 [(iv 20),bb,aG]::ib af 28 [(iv 21),sn,bs]::bc::aH::bt::H):=m.eraseAt 5
     obtain rfl:=sj aO
     exact⟨_,_,Z,_,bb,bc,bs,bt,(gt aX (gt a9 (gt bf (gt bj (gt bq (gt bw (gt bB bE))))))),f.k Z,m,bd,bu⟩
    ·intro bA w bB m bC bC
     have bu:=Ow.mono (RSl.mono (RI.mono _)) bB bu
     have bd:=od1 bB bd
     have aK:=Ow.mono (RSl.mono (RI.mono _)) bB aK
     refine Az 2 0 (ds:=[(iv 20),bb,aG]) m sizeOf28 f Z Z Z (An Z (An (Ow.one1 1 m bd Z) (An (Ow.one1 4 m aK Z) AK))) Z (lb Z) Z λw m=>Aa ?_
     refine bC bA [bt,bc,ib ae 28 [(iv 20),bb,aG]] _ _ gr m ?_
     refine Bp 8 Z λbv w bw m bx bx=> ?_
     have bu:=Ow.mono (RSl.mono (RI.mono _)) bw bu
     have bd:=od1 bw bd
     have bz:∀w,(Instr.build 28 #[(0,(iv 21)),(2,bs)]).run prog w= .ok (.agg #[(iv 21),sn,bs]) w:=by intro w;simp[Instr.build,Instr.fill,(Ow.cells 0 m bu rfl),Bz,Bn,Bc,Bk,A7,Bx]
     refine BG f Z Z bz λa f=>Aa ?_
     refine bx bv [bt,bc,ib ae 28 [(iv 20),bb,aG]] _ _ gr m ?_
     refine AU λbD w bE m=> ?_
     have bu:=Ow.mono (RSl.mono (RI.mono _)) bE bu
     have bd:=od1 bE bd
     refine Az 6 0 (ds:=[(iv 21),sn,bs]) m sizeOf28 f Z Z Z (An Z (An Z (An (Ow.one1 0 m bu Z) AK))) Z (lb Z) Z λw m=>Ac f Z λa f=>Aa ?_
     have m:=m.fr 4
     have m:=m.fr 2
     have m:Mem W bD w (ib af 28 [(iv 21),sn,bs]::bc::aH::bt::ib ae 28 [(iv 20),bb,aG]::ib aM 41 [aG,aI]::aJ::ib ad 31 [aa]::H):=m.fr 6
     have m:=m.fr 4
     have m:=m.fr 6
     have m:Mem W bD w (bt::aJ::ib ae 28 [(iv 20),bb,aG]::ib af 28 [(iv 21),sn,bs]::bc::aH::ib aM 41 [aG,aI]::ib ad 31 [aa]::H):=m.fr 5
     have m:=m.fr 5
     have m:=m.fr 5
     have m:Mem W bD w (ib af 28 [(iv 21),sn,bs]::bc::aH::bt::aJ::ib ae 28 [(iv 20),bb,aG]::ib aM 41 [aG,aI]::ib ad 31 [aa]::H):=m.fr 5
     have m:=m.fr 5
     have m:=m.eraseAt 7
     have m:Mem W bD w (ib ae 28 [(iv 20),bb,aG]::ib af 28 [(iv 21),sn,bs]::bc::aH::bt::aJ::H):=m.eraseAt 6
     have m:Mem W bD w (ib ae 28 [(iv 20),bb,aG]::ib af 28 [(iv 21),sn,bs]::bc::aH::bt::H):=m.eraseAt 5
     obtain rfl:=sj aO
     exact⟨_,_,Z,_,bb,bc,bs,bt,(gt aX (gt a9 (gt bf (gt bj (gt bq (gt bB (gt bw bE))))))),f.k Z,m,bd,bu⟩
   ·intro bi w bj m bk bk
    have⟨bl,bm,aO⟩:=bind_some aO
    have ac:=rd2 bj ac
    have bd:=od1 bj bd
    have aK:=Ow.mono (RSl.mono (RI.mono _)) bj aK
    refine AL f Z call17 (Wk.b0 m ac bm) λbn bo bp w bq m br a f=> ?_
    obtain⟨bs,bt,rfl,rfl,bu⟩:=br
    have bd:=od1 bq bd
    have aK:=Ow.mono (RSl.mono (RI.mono _)) bq aK
    refine Aa ?_
    refine bk bo [bt,bc,ib ae 28 [(iv 0),sn,sn]] _ _ bq m ?_
    refine CY (i:=5) (j:=8) (l1:= #[true,true,true,true,true,true,true,true,false,false,false,false]) (l2:= #[true,true,true,true,true,false,true,true,true,false,false,false]) Z Z (by kernel_rfl) Z Z ?_ ?_
    ·intro be w bf m bg bg
     have bu:=Ow.mono (RSl.mono (RI.mono _)) bf bu
     have bd:=od1 bf bd
     have aK:=Ow.mono (RSl.mono (RI.mono _)) bf aK
     have bh:∀w,(Instr.build 28 #[(0,(iv 20)),(1,bb),(2,aG)]).run prog w= .ok (.agg #[(iv 20),bb,aG]) w:=by intro w;simp[Instr.build,Instr.fill,(Ow.cells 1 m bd rfl),(Ow.cells 4 m aK rfl),Bz,Bn,Bc,Bk,A7,Bx]
     refine BG f Z Z bh λa f=>Aa ?_
     refine bg be [bt,bc,ib ae 28 [(iv 0),sn,sn]] _ _ gr m ?_
     refine CY (i:=8) (j:=9) (l1:= #[true,true,true,true,true,true,true,true,true,false,false,false]) (l2:= #[true,true,true,true,true,true,true,true,false,true,false,false]) Z Z (by kernel_rfl) Z Z ?_ ?_
     ·intro bv w bw m bx bx
      have bu:=Ow.mono (RSl.mono (RI.mono _)) bw bu
      have bd:=od1 bw bd
      have aK:=Ow.mono (RSl.mono (RI.mono _)) bw aK
      have bz:∀w,(Instr.build 28 #[(0,(iv 21)),(2,bs)]).run prog w= .ok (.agg #[(iv 21),sn,bs]) w:=by intro w;simp[Instr.build,Instr.fill,(Ow.cells 0 m bu rfl),Bz,Bn,Bc,Bk,A7,Bx]
      refine BG f Z Z bz λa f=>Aa ?_
      refine bx bv [bt,bc,ib ae 28 [(iv 0),sn,sn]] _ _ gr m ?_
      refine Bp 9 Z λbA w bB m bC bC=> ?_
      have bu:=Ow.mono (RSl.mono (RI.mono _)) bB bu
      have bd:=od1 bB bd
      have aK:=Ow.mono (RSl.mono (RI.mono _)) bB aK
      refine Az 2 0 (ds:=[(iv 20),bb,aG]) m sizeOf28 f Z Z Z (An Z (An (Ow.one1 1 m bd Z) (An (Ow.one1 4 m aK Z) AK))) Z (lb Z) Z λw m=>Aa ?_
      refine bC bA [bt,bc,ib ae 28 [(iv 20),bb,aG]] _ _ gr m ?_
      refine AU λbD w bE m=> ?_
      have bu:=Ow.mono (RSl.mono (RI.mono _)) bE bu
      have bd:=od1 bE bd
      refine Az 6 0 (ds:=[(iv 21),sn,bs]) m sizeOf28 f Z Z Z (An Z (An Z (An (Ow.one1 0 m bu Z) AK))) Z (lb Z) Z λw m=>Ac f Z λa f=>Aa ?_
      have m:=m.fr 4
      have m:=m.fr 2
      have m:Mem W bD w (ib af 28 [(iv 21),sn,bs]::bc::aH::bt::ib ae 28 [(iv 20),bb,aG]::ib aM 41 [aG,aI]::aJ::ib ad 31 [aa]::H):=m.fr 6
      have m:=m.fr 4
      have m:=m.fr 6
      have m:Mem W bD w (bt::aJ::ib ae 28 [(iv 20),bb,aG]::ib af 28 [(iv 21),sn,bs]::bc::aH::ib aM 41 [aG,aI]::ib ad 31 [aa]::H):=m.fr 5
      have m:=m.fr 5
      have m:=m.fr 5
      have m:Mem W bD w (ib af 28 [(iv 21),sn,bs]::bc::aH::bt::aJ::ib ae 28 [(iv 20),bb,aG]::ib aM 41 [aG,aI]::ib ad 31 [aa]::H):=m.fr 5
      have m:=m.fr 5
      have m:=m.eraseAt 7
      have m:Mem W bD w (ib ae 28 [(iv 20),bb,aG]::ib af 28 [(iv 21),sn,bs]::bc::aH::bt::aJ::H):=m.eraseAt 6
      have m:Mem W bD w (ib ae 28 [(iv 20),bb,aG]::ib af 28 [(iv 21),sn,bs]::bc::aH::bt::H):=m.eraseAt 5
      obtain rfl:=sj aO
      exact⟨_,_,Z,_,bb,bc,bs,bt,(gt aX (gt a9 (gt bj (gt bq (gt bf (gt bw (gt bB bE))))))),f.k Z,m,bd,bu⟩
     ·intro bA w bB m bC bC
      have bu:=Ow.mono (RSl.mono (RI.mono _)) bB bu
      have bd:=od1 bB bd
      have aK:=Ow.mono (RSl.mono (RI.mono _)) bB aK
      refine Az 2 0 (ds:=[(iv 20),bb,aG]) m sizeOf28 f Z Z Z (An Z (An (Ow.one1 1 m bd Z) (An (Ow.one1 4 m aK Z) AK))) Z (lb Z) Z λw m=>Aa ?_
      refine bC bA [bt,bc,ib ae 28 [(iv 20),bb,aG]] _ _ gr m ?_
      refine Bp 8 Z λbv w bw m bx bx=> ?_
      have bu:=Ow.mono (RSl.mono (RI.mono _)) bw bu
      have bd:=od1 bw bd
      have bz:∀w,(Instr.build 28 #[(0,(iv 21)),(2,bs)]).run prog w= .ok (.agg #[(iv 21),sn,bs]) w:=by intro w;simp[Instr.build,Instr.fill,(Ow.cells 0 m bu rfl),Bz,Bn,Bc,Bk,A7,Bx]
      refine BG f Z Z bz λa f=>Aa ?_
      refine bx bv [bt,bc,ib ae 28 [(iv 20),bb,aG]] _ _ gr m ?_
      refine AU λbD w bE m=> ?_
      have bu:=Ow.mono (RSl.mono (RI.mono _)) bE bu
      have bd:=od1 bE bd
      refine Az 6 0 (ds:=[(iv 21),sn,bs]) m sizeOf28 f Z Z Z (An Z (An Z (An (Ow.one1 0 m bu Z) AK))) Z (lb Z) Z λw m=>Ac f Z λa f=>Aa ?_
      have m:=m.fr 4
      have m:=m.fr 2
      have m:Mem W bD w (ib af 28 [(iv 21),sn,bs]::bc::aH::bt::ib ae 28 [(iv 20),bb,aG]::ib aM 41 [aG,aI]::aJ::ib ad 31 [aa]::H):=m.fr 6
      have m:=m.fr 4
      have m:=m.fr 6
      have m:Mem W bD w (bt::aJ::ib ae 28 [(iv 20),bb,aG]::ib af 28 [(iv 21),sn,bs]::bc::aH::ib aM 41 [aG,aI]::ib ad 31 [aa]::H):=m.fr 5
      have m:=m.fr 5
      have m:=m.fr 5
      have m:Mem W bD w (ib af 28 [(iv 21),sn,bs]::bc::aH::bt::aJ::ib ae 28 [(iv 20),bb,aG]::ib aM 41 [aG,aI]::ib ad 31 [aa]::H):=m.fr 5
      have m:=m.fr 5
      have m:=m.eraseAt 7
      have m:Mem W bD w (ib ae 28 [(iv 20),bb,aG]::ib af 28 [(iv 21),sn,bs]::bc::aH::bt::aJ::H):=m.eraseAt 6
      have m:Mem W bD w (ib ae 28 [(iv 20),bb,aG]::ib af 28 [(iv 21),sn,bs]::bc::aH::bt::H):=m.eraseAt 5
      obtain rfl:=sj aO
      exact⟨_,_,Z,_,bb,bc,bs,bt,(gt aX (gt a9 (gt bj (gt bq (gt bf (gt bB (gt bw bE))))))),f.k Z,m,bd,bu⟩
    ·intro bv w bw m bx bx
     have bu:=Ow.mono (RSl.mono (RI.mono _)) bw bu
     have bd:=od1 bw bd
     have aK:=Ow.mono (RSl.mono (RI.mono _)) bw aK
     have bz:∀w,(Instr.build 28 #[(0,(iv 21)),(2,bs)]).run prog w= .ok (.agg #[(iv 21),sn,bs]) w:=by intro w;simp[Instr.build,Instr.fill,(Ow.cells 0 m bu rfl),Bz,Bn,Bc,Bk,A7,Bx]
     refine BG f Z Z bz λa f=>Aa ?_
     refine bx bv [bt,bc,ib ae 28 [(iv 0),sn,sn]] _ _ gr m ?_
     refine Bp 5 Z λbe w bf m bg bg=> ?_
     have bu:=Ow.mono (RSl.mono (RI.mono _)) bf bu
     have bd:=od1 bf bd
     have aK:=Ow.mono (RSl.mono (RI.mono _)) bf aK
     have bh:∀w,(Instr.build 28 #[(0,(iv 20)),(1,bb),(2,aG)]).run prog w= .ok (.agg #[(iv 20),bb,aG]) w:=by intro w;simp[Instr.build,Instr.fill,(Ow.cells 1 m bd rfl),(Ow.cells 4 m aK rfl),Bz,Bn,Bc,Bk,A7,Bx]
     refine BG f Z Z bh λa f=>Aa ?_
     refine bg be [bt,bc,ib ae 28 [(iv 0),sn,sn]] _ _ gr m ?_
     refine Bp 9 Z λbA w bB m bC bC=> ?_
     have bu:=Ow.mono (RSl.mono (RI.mono _)) bB bu
     have bd:=od1 bB bd
     have aK:=Ow.mono (RSl.mono (RI.mono _)) bB aK
     refine Az 2 0 (ds:=[(iv 20),bb,aG]) m sizeOf28 f Z Z Z (An Z (An (Ow.one1 1 m bd Z) (An (Ow.one1 4 m aK Z) AK))) Z (lb Z) Z λw m=>Aa ?_
     refine bC bA [bt,bc,ib ae 28 [(iv 20),bb,aG]] _ _ gr m ?_
     refine AU λbD w bE m=> ?_
     have bu:=Ow.mono (RSl.mono (RI.mono _)) bE bu
     have bd:=od1 bE bd
     refine Az 6 0 (ds:=[(iv 21),sn,bs]) m sizeOf28 f Z Z Z (An Z (An Z (An (Ow.one1 0 m bu Z) AK))) Z (lb Z) Z λw m=>Ac f Z λa f=>Aa ?_
     have m:=m.fr 4
     have m:=m.fr 2
     have m:Mem W bD w (ib af 28 [(iv 21),sn,bs]::bc::aH::bt::ib ae 28 [(iv 20),bb,aG]::ib aM 41 [aG,aI]::aJ::ib ad 31 [aa]::H):=m.fr 6
     have m:=m.fr 4
     have m:=m.fr 6
     have m:Mem W bD w (bt::aJ::ib ae 28 [(iv 20),bb,aG]::ib af 28 [(iv 21),sn,bs]::bc::aH::ib aM 41 [aG,aI]::ib ad 31 [aa]::H):=m.fr 5
     have m:=m.fr 5
     have m:=m.fr 5
     have m:Mem W bD w (ib af 28 [(iv 21),sn,bs]::bc::aH::bt::aJ::ib ae 28 [(iv 20),bb,aG]::ib aM 41 [aG,aI]::ib ad 31 [aa]::H):=m.fr 5
     have m:=m.fr 5
     have m:=m.eraseAt 7
     have m:Mem W bD w (ib ae 28 [(iv 20),bb,aG]::ib af 28 [(iv 21),sn,bs]::bc::aH::bt::aJ::H):=m.eraseAt 6
     have m:Mem W bD w (ib ae 28 [(iv 20),bb,aG]::ib af 28 [(iv 21),sn,bs]::bc::aH::bt::H):=m.eraseAt 5
     obtain rfl:=sj aO
     exact⟨_,_,Z,_,bb,bc,bs,bt,(gt aX (gt a9 (gt bj (gt bq (gt bw (gt bf (gt bB bE))))))),f.k Z,m,bd,bu⟩
  ·rintro a w ⟨aP,aQ,rfl,aR,aS,aT,aU,aV,bF,f,m,bG,bH⟩
   have aK:=Ow.mono (RSl.mono (RI.mono _)) bF aK
   refine Aq ?_
   obtain⟨bI,m,bJ⟩:=Ow.nil R0 2 m
   have bK:=BY (P:=prog) 1 m Cv f (s:=2) rfl rfl rfl
   have bL:=BY (P:=prog) 2 m Cv f (s:=3) rfl rfl rfl
   have m:=m.fr 5
   have m:=m.fr 1
   have m:Mem W aR w (aH::bI::aV::ib ae 28 [(iv 20),aS,aG]::ib af 28 [(iv 21),sn,aU]::aT::H):=m.fr 5
   have m:=m.fr 5
   have m:=m.eraseAt 5
   have m:=m.eraseAt 4
   obtain rfl:=sj hd
   exact⟨[(.agg #[(iv 20),aS,aG]),(.agg #[(iv 21),sn,aU]),(.bool true)],⟨bK,bL,f.get _ _ Z,trivial⟩,f.d,_,[aT,aH,bI,aV],(gt aj (gt aE bF)),m,_,_,_,_,_,_,_,_,Z,Z,bG,aK,bJ,bH⟩
theorem Wk.Z1 {x0 x1 x2:Int}(m:Mem W G w (H)){y:Bool}(hd:D.Z1 x0 x1 x2=some y):
  Calls prog 120 #[(iv x0),(iv x1),(iv x2)] w (Res W G H (λ_ Ho v=>Ho=[]∧v=(.bool y))):=by
 refine Ar (args:=[(iv x0),(iv x1),(iv x2)]) (N:=15) [.tmp 6] func120 Z Z (lb Z) Z λa f=> ?_
 unfold D.Z1 at hd
 refine Ae ?_
 refine Ac f Z λa f=>Ay ?_
 refine Ab f Z λa f=>Ab f Z λa f=>Ai f Z Z CD λa f=>Ab f Z λa f=> ?_
 refine BH 4 (λa w=>∃aa,GLe G aa∧Mem W aa w (H)∧Fr a 15 [(0,(iv x0)),(1,(iv x1)),(2,(iv x2)),(7,(iv x1)),(8,(iv x0)),(9,(.bool (decide (x1≤x0)))),(10,(.bool (decide (x1≤x0)))),(14,(.bool ((decide (x1≤x0))&&(decide (x0≤x2)))))]) ?_ ?_
 ·rcases Bool.eq_false_or_eq_true (decide (x1≤x0)) with ab|ab
  ·refine AF f ab ?_
   refine Ab f Z λa f=>AF f ab ?_
   refine Ab f Z λa f=>AF f ab ?_
   refine Ai f Z Z CD λa f=>l_o f (A4 (f.e Z) ab (f.e Z)) λa f=> ?_
   exact⟨_,gr,m,f.weak ⟨Z,Z,Z,Z,Z,Z,Z,by rw[ab];rfl,trivial⟩⟩
  ·refine AG f ab λa f=> ?_
   refine AG f ab λa f=>AG f ab λa f=>l_o f (A5 (f.e Z) ab (f.e Z)) λa f=> ?_
   exact⟨_,gr,m,f.weak ⟨Z,Z,Z,Z,Z,Z,Z,by rw[ab];rfl,trivial⟩⟩
 ·rintro a w ⟨aa,ac,m,f⟩
  refine Ac f Z λa f=>Aa ?_
  refine Aq ?_
  obtain rfl:=sj hd
  exact⟨[(.bool ((decide (x1≤x0))&&(decide (x0≤x2))))],f.g Z,f.d,_,[],ac,m,Z,Z⟩
theorem Wk.u1 {v0:Value}{x0:LI}{x1:Int}(m:Mem W G w (H))(h0:R1 G v0 x0){y:Bool}(hd:D.u1 x0 x1=some y):
  Calls prog 77 #[v0,(iv x1)] w (Res W G H (λ_ Ho v=>Ho=[]∧v=(.bool y))):=by
 refine Ar (args:=[v0,(iv x1)]) (N:=33) [.tmp 4] func77 Z Z (lb Z) Z λa f=> ?_
 unfold D.u1 at hd
 refine Ae ?_
 refine Ac f Z λa f=>Aa (Ag (Ae ?_))
 refine Ab f Z λa f=>AO underlying26 f Z Z h0 λa f=>Ab f Z λa f=>Aa ?_
 have⟨aa,ab,hd⟩:=bind_some hd
 refine AH (λa w=>∃q_181':Unit,aa= .inl q_181'∧∃(ac:GH),GLe G ac∧Fr a 33 []∧Mem W ac w (H)) ?_ ?_
 ·refine Ak ?_
  refine AC (λad a w=>∃ae:Int,ae=ad∧∃(af:GH),GLe G af∧Fr a 33 [(0,v0),(1,(iv x1)),(7,v0),(8,(iv (x0.length:Int))),(9,(iv ae))]∧Mem W af w (H)) ab ⟨_,Z,_,gr,f.k Z,m⟩ ?_
  clear ab f m
  rintro ad ag ah ai a w ⟨ae,rfl,af,aj,f,m⟩
  have h0:=rd1 aj h0
  refine Ae ?_
  refine Ai f Z Z AE λa f=>Aa (Ag ?_)
  rcases Af ah with⟨ak,ah⟩|⟨ak,ah⟩
  ·refine Al f Z ak ?_
   refine Am ?_
   refine Ag (Ak (Ae ?_))
   refine Ab f Z λa f=> ?_
   have⟨al,am,ah⟩:=bind_some ah
   refine A2 T26 f Z Z Z h0 am λan ao a ap aq f=> ?_
   subst aq
   refine Ax m Pl2 f Z Z ap λa f=>Ac f Z λa f=>Ac f Z λa f=>Ay ?_
   refine Ab f Z λa f=>Ab f Z λa f=>Ai f Z Z Bh λa f=> ?_
   have⟨ar,au,ah⟩:=bind_some ah
   refine A6 f Z call120 (Wk.Z1 m au) λav w aw m a f=> ?_
   have h0:=rd1 aw h0
   refine l_o f (Bv (f.e Z)) λa f=>Ab f Z λa f=> ?_
   have⟨ax,ay,ah⟩:=bind_some ah
   refine BH 12 (λa w=>∃az,GLe av az∧Mem W az w (H)∧Fr a 33 [(0,v0),(1,(iv x1)),(5,(iv ae)),(6,(iv al)),(7,v0),(8,(iv (x0.length:Int))),(9,(iv ae)),(14,(iv al)),(15,(iv x1)),(16,(iv (i64.wrap (x1-1)))),(17,(.bool ar)),(18,(.bool (!ar))),(19,(.bool (!ar))),(31,(.bool ax))]) ?_ ?_
   ·rcases Af ay with⟨aA,ay⟩|⟨aA,ay⟩
    ·refine AG f aA λa f=> ?_
     refine AG f aA λa f=>AG f aA λa f=>D9 f Z Z Z λa f=>D9 f Z Z Z λa f=>D9 f Z Z Z λa f=>D9 f Z Z Z λa f=>D9 f Z Z Z λa f=>D9 f Z Z Z λa f=>D9 f Z Z Z λa f=>AG f aA λa f=>l_o f (A4 (f.e Z) aA (f.e Z)) λa f=> ?_
     obtain rfl:=sj ay
     exact⟨_,gr,m,f.k Z⟩
    ·refine AF f aA ?_
     refine Ab f Z λa f=>AF f aA ?_
     refine Ai f Z Z Cf λa f=>AF f aA ?_
     refine Ab f Z λa f=> ?_
     have⟨aB,aC,ay⟩:=bind_some ay
     refine BH 8 (λa w=>∃aD,GLe av aD∧Mem W aD w (H)∧Fr a 33 [(0,v0),(1,(iv x1)),(5,(iv ae)),(6,(iv al)),(7,v0),(8,(iv (x0.length:Int))),(9,(iv ae)),(14,(iv al)),(15,(iv x1)),(16,(iv (i64.wrap (x1-1)))),(17,(.bool ar)),(18,(.bool (!ar))),(19,(.bool (!ar))),(20,(iv ae)),(21,(.bool (decide ((0:Int)<ae)))),(22,(.bool (decide ((0:Int)<ae)))),(30,(.bool aB))]) ?_ ?_
     ·rcases Af aC with⟨aE,aC⟩|⟨aE,aC⟩
      ·refine AF f aE ?_
       refine Ab f Z λa f=>AF f aE ?_
       refine Ab f Z λa f=>AF f aE ?_
       refine Ai f Z Z Bh λa f=>AF f aE ?_
       have⟨aF,aG,aC⟩:=bind_some aC
       refine A2 T26 f Z Z Z h0 aG λaH aI a aJ aK f=> ?_
       subst aK
       refine AF f aE ?_
       refine Ax m Pl2 f Z Z aJ λa f=>AF f aE ?_
       refine Ab f Z λa f=>AF f aE ?_
       refine Ai f Z Z Cs λa f=>AF f aA ?_
       refine l_o f (A4 (f.e Z) aE (f.e Z)) λa f=> ?_
       obtain rfl:=sj aC
       exact⟨_,gr,m,f.k Z⟩
      ·refine AG f aE λa f=> ?_
       refine AG f aE λa f=>AG f aE λa f=>AG f aE λa f=>AG f aE λa f=>AG f aE λa f=>AG f aE λa f=>AF f aA ?_
       refine l_o f (A5 (f.e Z) aE (f.e Z)) λa f=> ?_
       obtain rfl:=sj aC
       exact⟨_,gr,m,f.k Z⟩
     ·rintro a w ⟨aD,aL,m,f⟩
      refine l_o f (A5 (f.e Z) aA (f.e Z)) λa f=> ?_
      obtain rfl:=sj ay
      exact⟨_,aL,m,f.k Z⟩
   ·rintro a w ⟨az,aM,m,f⟩
    refine Aa ?_
    rcases Af ah with⟨aN,ah⟩|⟨aN,ah⟩
    ·refine Al f Z aN ?_
     refine Ae ?_
     refine Ac f Z λa f=>Aa ?_
     refine Aq ?_
     obtain rfl:=sj ah
     obtain rfl:=ai _ rfl
     obtain rfl:=sj hd
     exact⟨[(.bool false)],f.g Z,f.d,_,[],(gt aj (gt aw aM)),m,Z,Z⟩
    ·refine Ah f Z aN ?_
     refine Am ?_
     refine Aj ?_
     refine Ai f Z Z Aw λa f=>Ab f Z λa f=>Aa ?_
     obtain rfl:=sj ah
     exact⟨_,Z,_,Z,_,(gt aj (gt aw aM)),f.k Z,m⟩
  ·refine Ah f Z ak ?_
   refine AA Z ?_
   obtain rfl:=sj ah
   obtain rfl:=ai _ rfl
   exact⟨_,Z,_,aj,f.weak trivial,m⟩
 ·rintro a w ⟨_,rfl,ac,aO,f,m⟩
  refine Ae ?_
  refine Ac f Z λa f=>Aa ?_
  refine Aq ?_
  obtain rfl:=sj hd
  exact⟨[(.bool true)],f.g Z,f.d,_,[],aO,m,Z,Z⟩
theorem Wk.y0 {aa:Value}{ab:LL}(m:Mem W G w (H))(ac:R2 G aa ab){y:Bool}(hd:D.y0 ab=some y):
  Calls prog 45 #[(.agg #[aa])] w (Res W G H (λ_ Ho v=>Ho=[]∧v=(.bool y))):=by
 refine Ar (args:=[(.agg #[aa])]) (N:=61) [.tmp 2] func45 Z Z (lb Z) Z λa f=> ?_
 unfold D.y0 at hd
 refine Ae ?_
 refine Bi (cs:=[aa]) m f Z Z Z λad w a m f=>Ac f Z λa f=>Ay ?_
 refine Bu underlying31 Z sizeOf22 f Z λa f=>AJ 0 0 m Bb f Z Z Z Z λa f=>AO underlying22 f Z Z ac λa f=>Ac f Z λa f=>Aa (Ag (Ae ?_))
 refine Ab f Z λa f=>Ai f Z Z AE λa f=>Ab f Z λa f=> ?_
 refine BH 3 (λa w=>∃ae,GLe G ae∧Mem W ae w (ib ad 31 [aa]::H)∧Fr a 61 [(0,(.agg #[aa])),(1,(pb ad)),(3,(iv (ab.length:Int))),(13,(iv (ab.length:Int))),(14,(.bool (decide ((ab.length:Int)<1)))),(15,(.bool (decide ((ab.length:Int)<1)))),(18,(.bool ((decide ((ab.length:Int)<1))||(decide ((16:Int)<(ab.length:Int))))))]) ?_ ?_
 ·rcases Bool.eq_false_or_eq_true (decide ((ab.length:Int)<1)) with af|af
  ·refine AG f af λa f=> ?_
   refine AG f af λa f=>l_o f (A4 (f.e Z) af (f.e Z)) λa f=> ?_
   exact⟨_,gr,m,f.weak ⟨Z,Z,Z,Z,Z,Z,by rw[af];rfl,trivial⟩⟩
  ·refine AF f af ?_
   refine Ab f Z λa f=>AF f af ?_
   refine Ai f Z Z Cf λa f=>l_o f (A5 (f.e Z) af (f.e Z)) λa f=> ?_
   exact⟨_,gr,m,f.weak ⟨Z,Z,Z,Z,Z,Z,by rw[af];rfl,trivial⟩⟩
 ·rintro a w ⟨ae,ag,m,f⟩
  have ac:=rd2 ag ac
  refine Aa ?_
  rcases Af hd with⟨ah,hd⟩|⟨ah,hd⟩
  ·refine Al f Z ah ?_
   refine Ae ?_
   refine Ac f Z λa f=>Aa ?_
   refine Aq ?_
   have m:Mem W ae w H:=Mem.drop (H':=[ib ad 31 [aa]]) m
   obtain rfl:=sj hd
   exact⟨[(.bool false)],f.g Z,f.d,_,[],ag,m,Z,Z⟩
  ·refine Ah f Z ah ?_
   refine Am ?_
   refine Ag (Ae ?_)
   refine Bu underlying31 Z sizeOf22 f Z λa f=>AJ 0 0 m Bb f Z Z Z Z λa f=>AO underlying22 f Z Z ac λa f=>Ab f Z λa f=>Aa ?_
   have⟨ai,aj,hd⟩:=bind_some hd
   refine AH (λa w=>∃q_91':Unit,ai= .inl q_91'∧∃(ak:GH),GLe ae ak∧Fr a 61 [(1,(pb ad))]∧Mem W ak w (ib ad 31 [aa]::H)) ?_ ?_
   ·refine Ak ?_
    refine AC (λal a w=>∃am:Int,am=al∧∃(an:GH),GLe ae an∧Fr a 61 [(1,(pb ad)),(3,(iv (ab.length:Int))),(20,aa),(21,(iv (ab.length:Int))),(22,(iv am))]∧Mem W an w (ib ad 31 [aa]::H)) aj ⟨_,Z,_,gr,f.k Z,m⟩ ?_
    clear aj f m
    rintro al ao ap aq a w ⟨am,rfl,an,ar,f,m⟩
    have ac:=rd2 ar ac
    refine Ae ?_
    refine Ai f Z Z AE λa f=>Aa (Ag ?_)
    rcases Af ap with⟨au,ap⟩|⟨au,ap⟩
    ·refine Al f Z au ?_
     refine Am ?_
     refine Ag (Ak (Ae ?_))
     refine Ab f Z λa f=> ?_
     have⟨av,aw,ap⟩:=bind_some ap
     refine A2 T22 f Z Z Z ac aw λax ay a az aA f=>Ax m AT f Z Z az λa f=>Ac f Z λa f=>Ac f Z λa f=>Ay ?_
     refine Ab f Z λa f=>Ab f Z λa f=> ?_
     have⟨aB,aC,ap⟩:=bind_some ap
     refine A6 f Z call77 (Wk.u1 m aA aC) λaD w aE m a f=> ?_
     have aA:=rd1 aE aA
     refine l_o f (Bv (f.e Z)) λa f=>Ab f Z λa f=> ?_
     have⟨aF,aG,ap⟩:=bind_some ap
     refine BH 4 (λa w=>∃aH,GLe aD aH∧Mem W aH w (ib ad 31 [aa]::H)∧Fr a 61 [(1,(pb ad)),(3,(iv (ab.length:Int))),(4,(iv am)),(5,ay),(20,aa),(21,(iv (ab.length:Int))),(22,(iv am)),(27,ay),(28,(iv (ab.length:Int))),(29,(.bool aB)),(30,(.bool (!aB))),(31,(.bool (!aB))),(35,(.bool aF))]) ?_ ?_
     ·rcases Af aG with⟨aI,aG⟩|⟨aI,aG⟩
      ·refine AG f aI λa f=> ?_
       refine AG f aI λa f=>AG f aI λa f=>l_o f (A4 (f.e Z) aI (f.e Z)) λa f=> ?_
       obtain rfl:=sj aG
       exact⟨_,gr,m,f.k Z⟩
      ·refine AF f aI ?_
       refine Ab f Z λa f=>AF f aI ?_
       refine Ab f Z λa f=>AF f aI ?_
       have⟨aJ,aK,aG⟩:=bind_some aG
       refine A6 f Z call78 (Wk.E0 m aA aK) λaL w aM m a f=>l_o f (A5 (f.e Z) aI (f.e Z)) λa f=> ?_
       obtain rfl:=sj aG
       exact⟨_,aM,m,f.k Z⟩
     ·rintro a w ⟨aH,aN,m,f⟩
      refine Aa ?_
      rcases Af ap with⟨aO,ap⟩|⟨aO,ap⟩
      ·refine Al f Z aO ?_
       refine Ae ?_
       refine Ac f Z λa f=>Aa ?_
       refine Aq ?_
       have m:Mem W aH w H:=Mem.drop (H':=[ib ad 31 [aa]]) m
       obtain rfl:=sj ap
       obtain rfl:=aq _ rfl
       obtain rfl:=sj hd
       exact⟨[(.bool false)],f.g Z,f.d,_,[],(gt ag (gt ar (gt aE aN))),m,Z,Z⟩
      ·refine Ah f Z aO ?_
       refine Am ?_
       refine Aj ?_
       refine Ai f Z Z Aw λa f=>Ab f Z λa f=>Aa ?_
       obtain rfl:=sj ap
       exact⟨_,Z,_,Z,_,(gt ar (gt aE aN)),f.k Z,m⟩
    ·refine Ah f Z au ?_
     refine AA Z ?_
     obtain rfl:=sj ap
     obtain rfl:=aq _ rfl
     exact⟨_,Z,_,ar,f.k Z,m⟩
   ·rintro a w ⟨_,rfl,ak,aP,f,m⟩
    have ac:=rd2 aP ac
    refine Ag (Ae ?_)
    refine Bu underlying31 Z sizeOf22 f Z λa f=>AJ 0 0 m Bb f Z Z Z Z λa f=>AO underlying22 f Z Z ac λa f=>Ab f Z λa f=>Aa ?_
    have⟨aQ,aR,hd⟩:=bind_some hd
    refine AH (λa w=>∃q_394':Unit,aQ= .inl q_394'∧∃(aS:GH),GLe ak aS∧Fr a 61 []∧Mem W aS w (H)) ?_ ?_
    ·refine Ak ?_
     refine AC (λaT a w=>∃aU:Int,aU=aT∧∃(aV:GH),GLe ak aV∧Fr a 61 [(1,(pb ad)),(38,aa),(39,(iv (ab.length:Int))),(40,(iv aU))]∧Mem W aV w (ib ad 31 [aa]::H)) aR ⟨_,Z,_,gr,f.k Z,m⟩ ?_
     clear aR f m
     rintro aT aW aX aY a w ⟨aU,rfl,aV,aZ,f,m⟩
     have ac:=rd2 aZ ac
     refine Ae ?_
     refine Ai f Z Z AE λa f=>Aa (Ag ?_)
     rcases Af aX with⟨a0,aX⟩|⟨a0,aX⟩
     ·refine Al f Z a0 ?_
      refine Am ?_
      refine Ag (Ak (Ae ?_))
      refine Ab f Z λa f=> ?_
      have⟨a1,a2,aX⟩:=bind_some aX
      refine A2 T22 f Z Z Z ac a2 λa3 a4 a a5 a6 f=>Ax m AT f Z Z a5 λa f=>Ac f Z λa f=>Ac f Z λa f=>Ay ?_
      refine Ab f Z λa f=>AO underlying26 f Z Z a6 λa f=>Ab f Z λa f=>Aa ?_
      have⟨a7,a8,aX⟩:=bind_some aX
      refine AH (λa w=>∃q_560':Unit,a7= .inl q_560'∧∃(a9:GH),GLe aV a9∧Fr a 61 [(1,(pb ad)),(38,aa),(39,(iv (ab.length:Int))),(40,(iv aU))]∧Mem W a9 w (ib ad 31 [aa]::H)) ?_ ?_
      ·refine Ak ?_
       refine AC (λba a w=>∃bb:Int,bb=ba∧∃(bc:GH),GLe aV bc∧Fr a 61 [(1,(pb ad)),(6,(iv aU)),(38,aa),(39,(iv (ab.length:Int))),(40,(iv aU)),(45,a4),(46,(iv (a1.length:Int))),(47,(iv bb))]∧Mem W bc w (ib ad 31 [aa]::H)) a8 ⟨_,Z,_,gr,f.k Z,m⟩ ?_
       clear a8 f m
       rintro ba bd be bf a w ⟨bb,rfl,bc,bg,f,m⟩
       have ac:=rd2 bg ac
       have a6:=rd1 bg a6
       refine Ae ?_
       refine Ai f Z Z AE λa f=>Aa (Ag ?_)
       rcases Af be with⟨bh,be⟩|⟨bh,be⟩
       ·refine Al f Z bh ?_
        refine Am ?_
        refine Ag (Ak (Ae ?_))
        have⟨bi,bj,be⟩:=bind_some be
        refine A2 T26 f Z Z Z a6 bj λbk bl a bm bn f=> ?_
        subst bn
        refine Ax m Pl2 f Z Z bm λa f=>Ac f Z λa f=>Ay ?_
        refine Bu underlying31 Z sizeOf22 f Z λa f=>AJ 0 0 m Bb f Z Z Z Z λa f=>Ab f Z λa f=> ?_
        have⟨bo,bp,be⟩:=bind_some be
        refine A2 T22 f Z Z Z ac bp λbq br a bs bt f=>Ax m AT f Z Z bs λa f=>Ab f Z λa f=> ?_
        have⟨bu,bv,be⟩:=bind_some be
        refine A6 f Z call78 (Wk.E0 m bt bv) λbw w bx m a f=>l_o f (Bv (f.e Z)) λa f=>Aa ?_
        rcases Af be with⟨bz,be⟩|⟨bz,be⟩
        ·refine Al f Z bz ?_
         refine Ae ?_
         refine Ac f Z λa f=>Aa ?_
         refine Aq ?_
         have m:Mem W bw w H:=Mem.drop (H':=[ib ad 31 [aa]]) m
         obtain rfl:=sj be
         obtain rfl:=bf _ rfl
         obtain rfl:=sj aX
         obtain rfl:=aY _ rfl
         obtain rfl:=sj hd
         exact⟨[(.bool false)],f.g Z,f.d,_,[],(gt ag (gt aP (gt aZ (gt bg bx)))),m,Z,Z⟩
        ·refine Ah f Z bz ?_
         refine Am ?_
         refine Aj ?_
         refine Ai f Z Z Aw λa f=>Ab f Z λa f=>Aa ?_
         obtain rfl:=sj be
         exact⟨_,Z,_,Z,_,(gt bg bx),f.k Z,m⟩
       ·refine Ah f Z bh ?_
        refine AA Z ?_
        obtain rfl:=sj be
        obtain rfl:=bf _ rfl
        exact⟨_,Z,_,bg,f.k Z,m⟩
      ·rintro a w ⟨_,rfl,a9,bA,f,m⟩
       refine Aj ?_
       refine Ai f Z Z Aw λa f=>Ab f Z λa f=>Aa ?_
       obtain rfl:=sj aX
       exact⟨_,Z,_,Z,_,(gt aZ bA),f.k Z,m⟩
     ·refine Ah f Z a0 ?_
      refine AA Z ?_
      have m:Mem W aV w H:=Mem.drop (H':=[ib ad 31 [aa]]) m
      obtain rfl:=sj aX
      obtain rfl:=aY _ rfl
      exact⟨_,Z,_,aZ,f.weak trivial,m⟩
    ·rintro a w ⟨_,rfl,aS,bB,f,m⟩
     refine Ae ?_
     refine Ac f Z λa f=>Aa ?_
     refine Aq ?_
     obtain rfl:=sj hd
     exact⟨[(.bool true)],f.g Z,f.d,_,[],(gt ag (gt aP bB)),m,Z,Z⟩
theorem Wk.P {aa:Value}{ab:LL}(m:Mem W G w (H))(ac:R2 G aa ab){y:Bool}(hd:D.P ab=some y):
  Calls prog 19 #[(.agg #[aa])] w (Res W G H (λ_ Ho v=>Ho=[]∧v=(.bool y))):=by
 refine Ar (args:=[(.agg #[aa])]) (N:=11) [.tmp 2] func19 Z Z (lb Z) Z λa f=> ?_
 unfold D.P at hd
 refine Ae ?_
 refine Bi (cs:=[aa]) m f Z Z Z λad w a m f=>Ac f Z λa f=>Ay ?_
 refine AB 0 0 (ds:=[aa]) m Bj f Z Z Z Z Z λa f=> ?_
 have⟨ae,af,hd⟩:=bind_some hd
 refine A6 f Z call45 (Wk.y0 m ac af) λag w ah m a f=> ?_
 have ac:=rd2 ah ac
 refine Ab f Z λa f=> ?_
 refine BH 5 (λa w=>∃ai,GLe ag ai∧Mem W ai w (ib ad 31 [aa]::H)∧Fr a 11 [(0,(.agg #[aa])),(1,(pb ad)),(3,(.agg #[aa])),(4,(.bool ae)),(5,(.bool ae)),(10,(.bool (ae&&(decide ((ab.length:Int)≤8)))))]) ?_ ?_
 ·rcases Bool.eq_false_or_eq_true ae with aj|aj
  ·refine AF f aj ?_
   refine Bu underlying31 Z sizeOf22 f Z λa f=>AF f aj ?_
   refine AJ 0 0 m Bb f Z Z Z Z λa f=>AF f aj ?_
   refine AO underlying22 f Z Z ac λa f=>AF f aj ?_
   refine Ai f Z Z CD λa f=>l_o f (A4 (f.e Z) aj (f.e Z)) λa f=> ?_
   exact⟨_,gr,m,f.weak ⟨Z,Z,Z,Z,Z,by rw[aj];rfl,trivial⟩⟩
  ·refine AG f aj λa f=> ?_
   refine AG f aj λa f=>AG f aj λa f=>AG f aj λa f=>l_o f (A5 (f.e Z) aj (f.e Z)) λa f=> ?_
   exact⟨_,gr,m,f.weak ⟨Z,Z,Z,Z,Z,by rw[aj];rfl,trivial⟩⟩
 ·rintro a w ⟨ai,ak,m,f⟩
  refine Ac f Z λa f=>Aa ?_
  refine Aq ?_
  have m:Mem W ai w H:=Mem.drop (H':=[ib ad 31 [aa]]) m
  obtain rfl:=sj hd
  exact⟨[(.bool (ae&&(decide ((ab.length:Int)≤8))))],f.g Z,f.d,_,[],(gt ah ak),m,Z,Z⟩
theorem Wk.K1 {aa:Value}{ab:LL}(m:Mem W G w (H))(ac:R2 G aa ab){y:Bool}(hd:D.K1 ab=some y):
  Calls prog 46 #[(.agg #[aa])] w (Res W G H (λ_ Ho v=>Ho=[]∧v=(.bool y))):=by
 refine Ar (args:=[(.agg #[aa])]) (N:=11) [.tmp 2] func46 Z Z (lb Z) Z λa f=> ?_
 unfold D.K1 at hd
 refine Ae ?_
 refine Bi (cs:=[aa]) m f Z Z Z λad w a m f=>Ac f Z λa f=>Ay ?_
 refine AB 0 0 (ds:=[aa]) m Bj f Z Z Z Z Z λa f=> ?_
 have⟨ae,af,hd⟩:=bind_some hd
 refine A6 f Z call45 (Wk.y0 m ac af) λag w ah m a f=> ?_
 have ac:=rd2 ah ac
 refine Ab f Z λa f=> ?_
 refine BH 5 (λa w=>∃ai,GLe ag ai∧Mem W ai w (ib ad 31 [aa]::H)∧Fr a 11 [(0,(.agg #[aa])),(1,(pb ad)),(3,(.agg #[aa])),(4,(.bool ae)),(5,(.bool ae)),(10,(.bool (ae&&(decide ((ab.length:Int)≤10)))))]) ?_ ?_
 ·rcases Bool.eq_false_or_eq_true ae with aj|aj
  ·refine AF f aj ?_
   refine Bu underlying31 Z sizeOf22 f Z λa f=>AF f aj ?_
   refine AJ 0 0 m Bb f Z Z Z Z λa f=>AF f aj ?_
   refine AO underlying22 f Z Z ac λa f=>AF f aj ?_
   refine Ai f Z Z CD λa f=>l_o f (A4 (f.e Z) aj (f.e Z)) λa f=> ?_
   exact⟨_,gr,m,f.weak ⟨Z,Z,Z,Z,Z,by rw[aj];rfl,trivial⟩⟩
  ·refine AG f aj λa f=> ?_
   refine AG f aj λa f=>AG f aj λa f=>AG f aj λa f=>l_o f (A5 (f.e Z) aj (f.e Z)) λa f=> ?_
   exact⟨_,gr,m,f.weak ⟨Z,Z,Z,Z,Z,by rw[aj];rfl,trivial⟩⟩
 ·rintro a w ⟨ai,ak,m,f⟩
  refine Ac f Z λa f=>Aa ?_
  refine Aq ?_
  have m:Mem W ai w H:=Mem.drop (H':=[ib ad 31 [aa]]) m
  obtain rfl:=sj hd
  exact⟨[(.bool (ae&&(decide ((ab.length:Int)≤10))))],f.g Z,f.d,_,[],(gt ah ak),m,Z,Z⟩
theorem Wk.f {x0:Int}(m:Mem W G w (H)){y:Int}(hd:D.f x0=some y):
  Calls prog 87 #[(iv x0)] w (Res W G H (λ_ Ho v=>Ho=[]∧v=(.int .u32 y))):=by
 refine Ar (args:=[(iv x0)]) (N:=5) [.tmp 2] func87 Z Z (lb Z) Z λa f=> ?_
 unfold D.f at hd
 refine Ae ?_
 refine Ac f Z λa f=>Ay ?_
 refine Ab f Z λa f=> ?_
 obtain⟨aa,hd⟩:=Fh hd
 refine l_o f (r_shl (f.e Z) (f.e Z) aa) λa f=>Ac f Z λa f=>Aa ?_
 refine Aq ?_
 obtain rfl:=sj hd
 exact⟨[(.int .u32 (ishl .u32 1 x0))],f.g Z,f.d,_,[],gr,m,Z,Z⟩
theorem Wk.z0 {v0:Value}{x0:LI}(m:Mem W G w (H))(h0:R1 G v0 x0){y:Int}(hd:D.z0 x0=some y):
  Calls prog 79 #[v0] w (Res W G H (λ_ Ho v=>Ho=[]∧v=(.int .u32 y))):=by
 refine Ar (args:=[v0]) (N:=18) [.tmp 2] func79 Z Z (lb Z) Z λa f=> ?_
 unfold D.z0 at hd
 refine Ae ?_
 refine Ac f Z λa f=>Ay ?_
 refine Ac f Z λa f=>Aa (Ag (Ae ?_))
 refine Ab f Z λa f=>AO underlying26 f Z Z h0 λa f=>Ab f Z λa f=>Aa ?_
 have⟨aa,ab,hd⟩:=bind_some hd
 refine AH (λa w=>∃ac:Int,ac=aa∧∃(ad:GH),GLe G ad∧Fr a 18 [(3,(.int .u32 ac))]∧Mem W ad w (H)) ?_ ?_
 ·refine Ak ?_
  refine AC (λae a w=>∃af:Int,∃ag:Int,(af,ag)=ae∧∃(ah:GH),GLe G ah∧Fr a 18 [(3,(.int .u32 af)),(6,v0),(7,(iv (x0.length:Int))),(8,(iv ag))]∧Mem W ah w (H)) ab ⟨_,_,Z,_,gr,f.k Z,m⟩ ?_
  clear ab f m
  rintro ae ai aj ak a w ⟨af,ag,rfl,ah,al,f,m⟩
  have h0:=rd1 al h0
  refine Ae ?_
  refine Ai f Z Z AE λa f=>Aa (Ag ?_)
  rcases Af aj with⟨am,aj⟩|⟨am,aj⟩
  ·refine Al f Z am ?_
   refine Am ?_
   refine Ag (Ak (Ae ?_))
   have⟨an,ao,aj⟩:=bind_some aj
   refine A2 T26 f Z Z Z h0 ao λap aq a ar au f=> ?_
   subst au
   refine Ax m Pl2 f Z Z ar λa f=>Ac f Z λa f=>Aa (Aj ?_)
   refine Ab f Z λa f=>Ab f Z λa f=> ?_
   have⟨av,aw,aj⟩:=bind_some aj
   refine A6 f Z call87 (Wk.f m aw) λax w ay m a f=>Ai f Z Z b_or λa f=>Ac f Z λa f=>Aa (Aj ?_)
   refine Ai f Z Z Aw λa f=>Ab f Z λa f=>Aa ?_
   obtain rfl:=sj aj
   exact⟨_,Z,_,_,Z,_,(gt al ay),f.k Z,m⟩
  ·refine Ah f Z am ?_
   refine AA Z ?_
   obtain rfl:=sj aj
   obtain rfl:=ak _ rfl
   exact⟨_,Z,_,al,f.k Z,m⟩
 ·rintro a w ⟨ac,rfl,ad,az,f,m⟩
  refine Ae ?_
  refine Ab f Z λa f=>Ac f Z λa f=>Aa ?_
  refine Aq ?_
  obtain rfl:=sj hd
  exact⟨[(.int .u32 ac)],f.g Z,f.d,_,[],az,m,Z,Z⟩
theorem Wk.i0 {aa:Value}{ab:LL}(m:Mem W G w (H))(ac:R2 G aa ab){y:(LI)}(hd:D.i0 ab=some y):
  Calls prog 47 #[(.agg #[aa])] w (Res W G H (λG' Ho v=>∃r0:Value,∃i0:Itm,Ho=[i0]∧r0=v∧Ow (RI .u32) 74 G' i0 r0 y)):=by
 refine Ar (args:=[(.agg #[aa])]) (N:=21) [.tmp 2] func47 Z Z (lb Z) Z λa f=> ?_
 unfold D.i0 at hd
 refine Ae ?_
 refine Bi (cs:=[aa]) m f Z Z Z λad w a m f=>Ac f Z λa f=>Ay ?_
 refine AP (R:=(RI .u32)) (xs:=([]:LI)) (RI.one _) m T62 f Z Z Z (by decide) (All2.nil _) λae af w a m ag f=>Ac f Z λa f=>Aa (Ag (Ae ?_))
 refine Bu underlying31 Z sizeOf22 f Z λa f=>AJ 1 0 m Bb f Z Z Z Z λa f=>AO underlying22 f Z Z ac λa f=>Ab f Z λa f=>Aa ?_
 have⟨ah,ai,hd⟩:=bind_some hd
 refine AH (λa w=>∃aj:LI,aj=ah∧∃(ak:GH) (al:Value) (am:Itm),GLe G ak∧Fr a 21 [(3,al)]∧Mem W ak w (am::H)∧Ow (RI .u32) 74 ak am al aj) ?_ ?_
 ·refine Ak ?_
  have m:=m.eraseAt 1
  refine AC (λan a w=>∃ao:LI,∃ap:Int,(ao,ap)=an∧∃(aq:GH) (ar:Value) (au:Itm),GLe G aq∧Fr a 21 [(3,ar),(8,aa),(9,(iv (ab.length:Int))),(10,(iv ap))]∧Mem W aq w (au::H)∧Ow (RI .u32) 74 aq au ar ao) ai ⟨_,_,Z,_,af,ae,gr,f.k Z,m,ag⟩ ?_
  clear ai f m
  rintro an av aw ax a w ⟨ao,ap,rfl,aq,ar,au,ay,f,m,az⟩
  have ac:=rd2 ay ac
  refine Ae ?_
  refine Ai f Z Z AE λa f=>Aa (Ag ?_)
  rcases Af aw with⟨aA,aw⟩|⟨aA,aw⟩
  ·refine Al f Z aA ?_
   refine Am ?_
   refine Ag (Ak (Ae ?_))
   have⟨aB,aC,aw⟩:=bind_some aw
   refine A2 T22 f Z Z Z ac aC λaD aE a aF aG f=>Ax m AT f Z Z aF λa f=>Ac f Z λa f=>Aa (Aj ?_)
   refine Ab f Z λa f=>Ab f Z λa f=> ?_
   have⟨aH,aI,aw⟩:=bind_some aw
   refine A6 f Z call79 (Wk.z0 m aG aI) λaJ w aK m a f=> ?_
   have az:=od1 aK az
   refine AP (R:=(RI .u32)) (xs:=([aH]:LI)) (RI.one _) m T62 f Z Z Z (by decide) (All2.cons Z (All2.nil _)) λaL aM w a m aN f=> ?_
   have⟨aO,aP,aw⟩:=bind_some aw
   refine AW (RI.one _) 1 m az Z T62 Z (by decide) f Z Z Z (Ow.src (j:=0) aN m Z) aP λaQ aR w a m aS f=>Ac f Z λa f=>Aa (Aj ?_)
   refine Ai f Z Z Aw λa f=>Ab f Z λa f=>Aa ?_
   have m:=m.fr 1
   have m:=m.eraseAt 1
   obtain rfl:=sj aw
   exact⟨_,Z,_,_,Z,_,aR,aQ,(gt ay aK),f.k Z,m,aS⟩
  ·refine Ah f Z aA ?_
   refine AA Z ?_
   obtain rfl:=sj aw
   obtain rfl:=ax _ rfl
   exact⟨_,Z,_,ar,au,ay,f.k Z,m,az⟩
 ·rintro a w ⟨aj,rfl,ak,al,am,aT,f,m,aU⟩
  refine Ae ?_
  refine Ab f Z λa f=>Ac f Z λa f=>Aa ?_
  refine Aq ?_
  obtain rfl:=sj hd
  exact⟨[al],f.g Z,f.d,_,[am],aT,m,_,_,Z,Z,aU⟩
theorem Wk.y1 {x0:Int}(m:Mem W G w (H)){y:Int}(hd:D.y1 x0=some y):
  Calls prog 97 #[(iv x0)] w (Res W G H (λ_ Ho v=>Ho=[]∧v=(.int .u32 y))):=by
 refine Ar (args:=[(iv x0)]) (N:=6) [.tmp 2] func97 Z Z (lb Z) Z λa f=> ?_
 unfold D.y1 at hd
 refine Ae ?_
 refine Ac f Z λa f=>Ay ?_
 refine Ab f Z λa f=> ?_
 obtain⟨aa,hd⟩:=Fh hd
 refine l_o f (r_shl (f.e Z) (f.e Z) aa) λa f=>Ai f Z Z Bh λa f=>Ac f Z λa f=>Aa ?_
 refine Aq ?_
 obtain rfl:=sj hd
 exact⟨[(.int .u32 (IntKind.u32.wrap ((ishl .u32 1 x0)-1)))],f.g Z,f.d,_,[],gr,m,Z,Z⟩
theorem Wk.n {v0:Value}{x0:LI}(m:Mem W G w (H))(h0:RSl (RI .u32) G v0 x0){y:Int}(hd:D.n x0=some y):
  Calls prog 57 #[v0] w (Res W G H (λ_ Ho v=>Ho=[]∧v=(.int .u32 y))):=by
 refine Ar (args:=[v0]) (N:=6) [.tmp 2] func57 Z Z (lb Z) Z λa f=> ?_
 unfold D.n at hd
 refine Ae ?_
 refine Ac f Z λa f=>Ay ?_
 refine Ab f Z λa f=>AO underlying62 f Z Z h0 λa f=> ?_
 have⟨aa,ab,hd⟩:=bind_some hd
 refine A6 f Z call97 (Wk.y1 m ab) λac w ad m a f=>Ac f Z λa f=>Aa ?_
 refine Aq ?_
 obtain rfl:=sj hd
 exact⟨[(.int .u32 aa)],f.g Z,f.d,_,[],ad,m,Z,Z⟩
theorem Wk.O {x0:Int}(hW:Cr W)(m:Mem W G w (H)){y:Int}(hd:D.O x0=some y):
  Calls prog 96 #[(.int .u32 x0)] w (Res W G H (λ_ Ho v=>Ho=[]∧v=(iv y))):=by
 refine Ar (args:=[(.int .u32 x0)]) (N:=5) [.tmp 2] func96 Z Z (lb Z) Z λa f=> ?_
 unfold D.O at hd
 refine Ae ?_
 refine Ac f Z λa f=>Ay ?_
 refine Ab f Z λa f=> ?_
 have⟨aa,ab,hd⟩:=bind_some hd
 refine A6 f Z call132 (Wk.T1 hW m ab) λac w ad m a f=>Ac f Z λa f=>Aa ?_
 refine Aq ?_
 obtain rfl:=sj hd
 exact⟨[(iv aa)],f.g Z,f.d,_,[],ad,m,Z,Z⟩
theorem Wk.i {x0:Int}(hW:Cr W)(m:Mem W G w (H)){y:(LI)}(hd:D.i x0=some y):
  Calls prog 89 #[(.int .u32 x0)] w (Res W G H (λG' Ho v=>∃r0:Value,∃i0:Itm,Ho=[i0]∧r0=v∧Ow R0 3 G' i0 r0 y)):=by
 refine Ar (args:=[(.int .u32 x0)]) (N:=17) [.tmp 2] func89 Z Z (lb Z) Z λa f=> ?_
 unfold D.i at hd
 refine Ae ?_
 refine Ac f Z λa f=>Ay ?_
 refine AP (R:=R0) (xs:=([]:LI)) (RI.one _) m T66 f Z Z Z (by decide) (All2.nil _) λaa ab w a m ac f=>Ac f Z λa f=>Aa (Ag ?_)
 have⟨ad,ae,hd⟩:=bind_some hd
 refine AH (λa w=>∃af:LI,af=ad∧∃(ag:GH) (ah:Value) (ai:Itm),GLe G ag∧Fr a 17 [(3,ah)]∧Mem W ag w (ai::H)∧Ow R0 3 ag ai ah af) ?_ ?_
 ·refine Ak ?_
  refine AC (λaj a w=>∃ak:Int,∃al:LI,(ak,al)=aj∧∃(am:GH) (an:Value) (ao:Itm),GLe G am∧Fr a 17 [(0,(.int .u32 ak)),(3,an)]∧Mem W am w (ao::H)∧Ow R0 3 am ao an al) ae ⟨_,_,Z,_,ab,aa,gr,f.k Z,m,ac⟩ ?_
  clear ae f m
  rintro aj ap aq ar a w ⟨ak,al,rfl,am,an,ao,au,f,m,av⟩
  refine Ag (Ae ?_)
  refine Ab f Z λa f=>Ai f Z Z B8 λa f=>Aa ?_
  rcases Af aq with⟨aw,aq⟩|⟨aw,aq⟩
  ·refine Al f Z aw ?_
   refine Am ?_
   refine Ag (Ak (Aj ?_))
   refine Ab f Z λa f=>Ab f Z λa f=> ?_
   have⟨ax,ay,aq⟩:=bind_some aq
   refine A6 f Z call96 (Wk.O hW m ay) λaz w aA m a f=> ?_
   have av:=od1 aA av
   refine AP (R:=R0) (xs:=([ax]:LI)) (RI.one _) m T66 f Z Z Z (by decide) (All2.cons Z (All2.nil _)) λaB aC w a m aD f=> ?_
   have⟨aE,aF,aq⟩:=bind_some aq
   refine AW (RI.one _) 1 m av Z T66 Z (by decide) f Z Z Z (Ow.src (j:=0) aD m Z) aF λaG aH w a m aI f=>Ac f Z λa f=>Aa (Aj ?_)
   refine Ab f Z λa f=>Ab f Z λa f=>Ai f Z Z Bh λa f=>Ai f Z Z DO λa f=>Ac f Z λa f=>Aa ?_
   have m:=m.fr 1
   have m:=m.eraseAt 1
   obtain rfl:=sj aq
   exact⟨_,Z,_,_,Z,_,aH,aG,(gt au aA),f.k Z,m,aI⟩
  ·refine Ah f Z aw ?_
   refine AA Z ?_
   obtain rfl:=sj aq
   obtain rfl:=ar _ rfl
   exact⟨_,Z,_,an,ao,au,f.k Z,m,av⟩
 ·rintro a w ⟨af,rfl,ag,ah,ai,aJ,f,m,aK⟩
  refine Ae ?_
  refine Ab f Z λa f=>Ac f Z λa f=>Aa ?_
  refine Aq ?_
  obtain rfl:=sj hd
  exact⟨[ah],f.g Z,f.d,_,[ai],aJ,m,_,_,Z,Z,aK⟩
theorem Wk.V {v0:Value}{x0:LI}{x1 x2:Int}(hW:Cr W)(m:Mem W G w (H))(h0:RSl (RI .u32) G v0 x0){y:Int}(hd:D.V x0 x1 x2=some y):
  Calls prog 95 #[v0,(iv x1),(.int .u32 x2)] w (Res W G H (λ_ Ho v=>Ho=[]∧v=(.int .u32 y))):=by
 refine Ar (args:=[v0,(iv x1),(.int .u32 x2)]) (N:=35) [.tmp 6] func95 Z Z (lb Z) Z λa f=> ?_
 unfold D.V at hd
 refine Ae ?_
 refine Ac f Z λa f=>Ay ?_
 refine Ab f Z λa f=> ?_
 have⟨aa,ab,hd⟩:=bind_some hd
 refine A6 f Z call87 (Wk.f m ab) λac w ad m a f=> ?_
 have h0:=rd1 ad h0
 refine Ac f Z λa f=>Aa ?_
 have⟨ae,af,hd⟩:=bind_some hd
 refine Ak ?_
 refine AC (λag a w=>∃ah:Int,ah=ag∧∃(ai:GH),GLe ac ai∧Fr a 35 [(0,v0),(2,(.int .u32 x2)),(7,(.int .u32 ah))]∧Mem W ai w (H)) af ⟨_,Z,_,gr,f.k Z,m⟩ ?_
 clear af f m
 rintro ag aj ak al a w ⟨ah,rfl,ai,am,f,m⟩
 have h0:=rd1 am h0
 refine Ak (Ae ?_)
 refine Ab f Z λa f=>Ac f Z λa f=>Aa (Ag (Ae ?_))
 refine Ab f Z λa f=> ?_
 have⟨an,ao,ak⟩:=bind_some ak
 refine AL f Z call89 (Wk.i hW m ao) λap aq ar w au m av a f=> ?_
 obtain⟨aw,ax,rfl,rfl,ay⟩:=av
 have h0:=rd1 au h0
 refine BE 0 m ay Z underlying66 f Z Z λa f=>Ab f Z λa f=>Aa ?_
 have⟨az,aA,ak⟩:=bind_some ak
 refine AH (λa w=>∃aB:Int,aB=az∧∃(aC:GH),GLe aq aC∧Fr a 35 [(0,v0),(2,(.int .u32 x2)),(7,(.int .u32 ah)),(8,(.int .u32 aB))]∧Mem W aC w (H)) ?_ ?_
 ·refine Ak ?_
  refine AC (λaD a w=>∃aE:Int,∃aF:Int,(aE,aF)=aD∧∃(aG:GH),GLe aq aG∧Fr a 35 [(0,v0),(2,(.int .u32 x2)),(7,(.int .u32 ah)),(8,(.int .u32 aE)),(15,aw),(16,(iv (an.length:Int))),(17,(iv aF))]∧Mem W aG w (ax::H)) aA ⟨_,_,Z,_,gr,f.k Z,m⟩ ?_
  clear aA f m
  rintro aD aH aI aJ a w ⟨aE,aF,rfl,aG,aK,f,m⟩
  have h0:=rd1 aK h0
  have ay:=od1 aK ay
  refine Ae ?_
  refine Ai f Z Z AE λa f=>Aa (Ag ?_)
  rcases Af aI with⟨aL,aI⟩|⟨aL,aI⟩
  ·refine Al f Z aL ?_
   refine Am ?_
   refine Ag (Ak (Ae ?_))
   have⟨aM,aN,aI⟩:=bind_some aI
   refine AZ 0 m ay Z T66 f Z Z Z aN λaO a aP f=>BA 0 m ay Z Pl3 f Z Z aP aN λaQ a aR f=> ?_
   subst aR
   refine Ac f Z λa f=>Aa (Aj ?_)
   refine Ab f Z λa f=>Ab f Z λa f=>Ab f Z λa f=> ?_
   have⟨aS,aT,aI⟩:=bind_some aI
   refine A2 T62 f Z Z Z h0 aT λaU aV a aW aX f=> ?_
   subst aX
   refine Ax m C3 f Z Z aW λa f=>Ab f Z λa f=>Ai f Z Z DO λa f=>Ai f Z Z b_or λa f=>Ac f Z λa f=>Aa (Aj ?_)
   refine Ai f Z Z Aw λa f=>Ab f Z λa f=>Aa ?_
   obtain rfl:=sj aI
   exact⟨_,Z,_,_,Z,_,aK,f.k Z,m⟩
  ·refine Ah f Z aL ?_
   refine AA Z ?_
   have m:Mem W aG w H:=Mem.drop (H':=[ax]) m
   obtain rfl:=sj aI
   obtain rfl:=aJ _ rfl
   exact⟨_,Z,_,aK,f.k Z,m⟩
 ·rintro a w ⟨aB,rfl,aC,aY,f,m⟩
  refine Ag (Ae ?_)
  refine Ab f Z λa f=>Ab f Z λa f=>Ai f Z Z BS λa f=>Aa ?_
  rcases Af ak with⟨aZ,ak⟩|⟨aZ,ak⟩
  ·refine Al f Z aZ ?_
   refine Ae ?_
   refine Ab f Z λa f=>Ac f Z λa f=>Aa ?_
   refine Aq ?_
   obtain rfl:=sj ak
   obtain rfl:=al _ rfl
   obtain rfl:=sj hd
   exact⟨[(.int .u32 ah)],f.g Z,f.d,_,[],(gt ad (gt am (gt au aY))),m,Z,Z⟩
  ·refine Ah f Z aZ ?_
   refine Am ?_
   refine Aj ?_
   refine Ab f Z λa f=>Ac f Z λa f=>Aa ?_
   obtain rfl:=sj ak
   exact⟨_,Z,_,Z,_,(gt am (gt au aY)),f.k Z,m⟩
theorem Wk.k0 {v0:Value}{x0:LI}{x1 x2:Int}(hW:Cr W)(m:Mem W G w (H))(h0:RSl (RI .u32) G v0 x0){y:Int}(hd:D.k0 x0 x1 x2=some y):
  Calls prog 128 #[v0,(.int .u32 x1),(iv x2)] w (Res W G H (λ_ Ho v=>Ho=[]∧v=(.int .u32 y))):=by
 refine Ar (args:=[v0,(.int .u32 x1),(iv x2)]) (N:=38) [.tmp 6] func128 Z Z (lb Z) Z λa f=> ?_
 unfold D.k0 at hd
 refine Ae ?_
 refine Ac f Z λa f=>Ay ?_
 refine Ab f Z λa f=>Ab f Z λa f=>Ab f Z λa f=>Ab f Z λa f=> ?_
 have⟨aa,ab,hd⟩:=bind_some hd
 refine A6 f Z call87 (Wk.f m ab) λac w ad m a f=> ?_
 have h0:=rd1 ad h0
 refine Ai f Z Z b_or λa f=> ?_
 have⟨ae,af,hd⟩:=bind_some hd
 refine A6 f Z call95 (Wk.V hW m h0 af) λag w ah m a f=> ?_
 have h0:=rd1 ah h0
 refine Ac f Z λa f=>Ay ?_
 refine Ac f Z λa f=>Aa (Ag (Ae ?_))
 refine Ab f Z λa f=> ?_
 have⟨ai,aj,hd⟩:=bind_some hd
 refine AL f Z call89 (Wk.i hW m aj) λak al am w an m ao a f=> ?_
 obtain⟨ap,aq,rfl,rfl,ar⟩:=ao
 have h0:=rd1 an h0
 refine BE 0 m ar Z underlying66 f Z Z λa f=>Ab f Z λa f=>Aa ?_
 have⟨au,av,hd⟩:=bind_some hd
 refine AH (λa w=>∃aw:Int,aw=au∧∃(ax:GH),GLe al ax∧Fr a 38 [(1,(.int .u32 x1)),(2,(iv x2)),(8,(.int .u32 aw))]∧Mem W ax w (H)) ?_ ?_
 ·refine Ak ?_
  refine AC (λay a w=>∃az:Int,∃aA:Int,(az,aA)=ay∧∃(aB:GH),GLe al aB∧Fr a 38 [(0,v0),(1,(.int .u32 x1)),(2,(iv x2)),(8,(.int .u32 az)),(19,ap),(20,(iv (ai.length:Int))),(21,(iv aA))]∧Mem W aB w (aq::H)) av ⟨_,_,Z,_,gr,f.k Z,m⟩ ?_
  clear av f m
  rintro ay aC aD aE a w ⟨az,aA,rfl,aB,aF,f,m⟩
  have h0:=rd1 aF h0
  have ar:=od1 aF ar
  refine Ae ?_
  refine Ai f Z Z AE λa f=>Aa (Ag ?_)
  rcases Af aD with⟨aG,aD⟩|⟨aG,aD⟩
  ·refine Al f Z aG ?_
   refine Am ?_
   refine Ag (Ak (Ae ?_))
   have⟨aH,aI,aD⟩:=bind_some aD
   refine AZ 0 m ar Z T66 f Z Z Z aI λaJ a aK f=>BA 0 m ar Z Pl3 f Z Z aK aI λaL a aM f=> ?_
   subst aM
   refine Ac f Z λa f=>Aa (Aj ?_)
   refine Ab f Z λa f=>Ab f Z λa f=>Ab f Z λa f=> ?_
   have⟨aN,aO,aD⟩:=bind_some aD
   refine A2 T62 f Z Z Z h0 aO λaP aQ a aR aS f=> ?_
   subst aS
   refine Ax m C3 f Z Z aR λa f=>Ai f Z Z b_or λa f=>Ac f Z λa f=>Aa (Aj ?_)
   refine Ai f Z Z Aw λa f=>Ab f Z λa f=>Aa ?_
   obtain rfl:=sj aD
   exact⟨_,Z,_,_,Z,_,aF,f.k Z,m⟩
  ·refine Ah f Z aG ?_
   refine AA Z ?_
   have m:Mem W aB w H:=Mem.drop (H':=[aq]) m
   obtain rfl:=sj aD
   obtain rfl:=aE _ rfl
   exact⟨_,Z,_,aF,f.k Z,m⟩
 ·rintro a w ⟨aw,rfl,ax,aT,f,m⟩
  refine Ae ?_
  refine Ab f Z λa f=>Ab f Z λa f=>Ai f Z Z CR λa f=>Ab f Z λa f=> ?_
  have⟨aU,aV,hd⟩:=bind_some hd
  refine A6 f Z call87 (Wk.f m aV) λaW w aX m a f=>Ai f Z Z CR λa f=>Ac f Z λa f=>Aa ?_
  refine Aq ?_
  obtain rfl:=sj hd
  exact⟨[(.int .u32 (iandNot .u32 (iandNot .u32 aw x1) aU))],f.g Z,f.d,_,[],(gt ad (gt ah (gt an (gt aT aX)))),m,Z,Z⟩
theorem Wk.k1 {x0:Int}(m:Mem W G w (H)){y:Int}(hd:D.k1 x0=some y):
  Calls prog 129 #[(.int .u32 x0)] w (Res W G H (λ_ Ho v=>Ho=[]∧v=(iv y))):=by
 refine Ar (args:=[(.int .u32 x0)]) (N:=5) [.tmp 2] func129 Z Z (lb Z) Z λa f=> ?_
 unfold D.k1 at hd
 refine Ae ?_
 refine Ac f Z λa f=>Ay ?_
 refine Ab f Z λa f=> ?_
 have⟨aa,ab,hd⟩:=bind_some hd
 refine A6 f Z call153 (Wk.a1 m ab) λac w ad m a f=>Ac f Z λa f=>Aa ?_
 refine Aq ?_
 obtain rfl:=sj hd
 exact⟨[(iv aa)],f.g Z,f.d,_,[],ad,m,Z,Z⟩
end Go.Proofs.YtkoehcencogjpaaGreatDoor

set_option maxRecDepth 100000
namespace Go.Proofs.YtkoehcencogjpaaGreatDoor
open Go Go.Sx
open Go.Proofs.Tryz Go.Proofs.YtkoehcencogjpaaGreatDoor.Tryz IntKind
variable {W w : World} {G : GH} {H : List Itm}
theorem hT67 :SlT prog 66 3 1 8 (iv 0):=⟨underlying66,Tryz.t3,by kernel_rfl,by kernel_rfl,by kernel_rfl,by kernel_rfl⟩
theorem hP3 :B4 prog 3:=isAgg3
theorem hP61 :B4 prog 62:=isAgg62
theorem hP83 :B4 prog 112:=isAgg112
abbrev wPtr (b:Nat):Value:= .pointer (some ⟨b,0,none⟩)
abbrev CH (b:Nat)(va vm:Value):Itm:=ib b 114 [va,vm]
theorem OwMp.cells {β:Type}{q:IntKind}{enc:β→Value}{it:Itm}{v:Value}{M:List (Int×β)}(h:OwMp q enc it v M):v.cells= #[v]:=by
 obtain⟨b,es,clock,rfl,rfl,_⟩:=h;rfl
theorem Wk.w2 {v0:Value}{x0:LI}(m:Mem W G w H)(h0:RSl (RI .u32) G v0 x0):
  Calls prog 53 #[v0] w (Res W G H (λG' Ho v=>∃(bx:Nat) (vm:Value) (itM:Itm),Ho=[CH bx v0 vm,itM]∧v=wPtr bx∧OwMp .u32 (Value.int .i64) itM vm [])):=by
 refine Ar (args:=[v0]) (N:=7) [.tmp 2] func53 Z Z (lb Z) Z λa f=>Ae ?_
 refine Ac f Z λa f=>Ay ?_
 refine Ab f Z λa f=>l_makeMap .u32 (Value.int .i64) m f Z λitM vm w a m oM f=> ?_
 have hb:∀w,(Instr.build 114 #[(0,v0),(1,vm)]).run prog w= .ok (.agg #[v0,vm]) w:=by intro w;simp[Instr.build,Instr.fill,h0.cells,OwMp.cells oM,Bx]
 refine BG f Z Z hb λa f=>Bi (cs:=[v0,vm]) m f Z Z Z λbx w a m f=>Ac f Z λa f=>Aa ?_
 refine Aq ?_
 exact⟨[wPtr bx],f.g Z,f.d,G,[CH bx v0 vm,itM],gr,m,_,_,_,Z,Z,oM⟩
def AfterOk (W:World)(F:LI)(n:Nat):Prop:=∀(w:World) (G:GH) (H:List Itm) (bx:Nat) (va vm:Value) (itM:Itm) (M:List (Int×Int)) (k y:Int) (m:Mem W G w (CH bx va vm::itM::H)) (h0:RSl (RI .u32) G va F) (oM:OwMp .u32 (Value.int .i64) itM vm M) (hc:DN F M) (hd:D.l n F k=some y),
 Calls prog 54 #[wPtr bx,(.int .u32 k)] w (Res W G H (λG' Ho v=>∃(it':Itm) (M':List (Int×Int)),Ho=[CH bx va vm,it']∧v= .int .i64 y∧OwMp .u32 (Value.int .i64) it' vm M'∧DN F M'))
theorem AfterOk.go {W:World}{F:LI}{n:Nat}(h:AfterOk W F n){w:World}{G:GH}{H:List Itm}{bx:Nat}{va vm:Value}{itM:Itm}{M:List (Int×Int)}{k y:Int}(m:Mem W G w (CH bx va vm::itM::H))(h0:RSl (RI .u32) G va F)(oM:OwMp .u32 (Value.int .i64) itM vm M)(hc:DN F M)(hd:D.l n F k=some y):
 Calls prog 54 #[wPtr bx,(.int .u32 k)] w (Res W G H (λG' Ho v=>∃(it':Itm) (M':List (Int×Int)),Ho=[CH bx va vm,it']∧v= .int .i64 y∧OwMp .u32 (Value.int .i64) it' vm M'∧DN F M')):=h _ _ _ _ _ _ _ _ _ _ m h0 oM hc hd
set_option maxHeartbeats 1000000 in
theorem Wk.y2 {W:World}(hW:Cr W){F:LI}{n:Nat}(ih:AfterOk W F n){w:World}{G:GH}{H:List Itm}{bx:Nat}{va vm:Value}{itM:Itm}{M:List (Int×Int)}{k v y:Int}(m:Mem W G w (CH bx va vm::itM::H))(h0:RSl (RI .u32) G va F)(oM:OwMp .u32 (Value.int .i64) itM vm M)(hc:DN F M)(hd:D.n0 (D.l n F) F k v=some y):
  Calls prog 91 #[wPtr bx,(.int .u32 k),(iv v)] w (Res W G H (λG' Ho r=>∃(it':Itm) (M':List (Int×Int)),Ho=[CH bx va vm,it']∧r= .int .i64 y∧OwMp .u32 (Value.int .i64) it' vm M'∧DN F M')):=by
 refine Ar (args:=[wPtr bx,(.int .u32 k),(iv v)]) (N:=22) [.tmp 6] func91 Z Z (lb Z) Z λa f=> ?_
 unfold D.n0 at hd
 have⟨b,hb,hd⟩:=bind_some hd
 have⟨s,hs,hd⟩:=bind_some hd
 have⟨o,ho,hd⟩:=bind_some hd
 have⟨t,ht,hd⟩:=bind_some hd
 obtain rfl:=sj hd
 refine Ae ?_
 refine Ac f Z λa f=>Ay ?_
 refine Ab f Z λa f=>l_o f (BQ (f.e Z)) λa f=>Bu underlying114 Z sizeOf62 f Z λa f=>AJ 0 0 m hP61 f Z Z Z Z λa f=>Ab f Z λa f=>Ab f Z λa f=>A6 f Z call128 (Wk.k0 hW m h0 hb) λG1 w hl1 m a f=> ?_
 have h0:=rd1 hl1 h0
 refine A6 f Z call129 (Wk.k1 m hs) λG2 w hl2 m a f=> ?_
 have h0:=rd1 hl2 h0
 refine Ab f Z λa f=>Ab f Z λa f=>Ab f Z λa f=>A6 f Z call87 (Wk.f m ho) λG3 w hl3 m a f=> ?_
 have h0:=rd1 hl3 h0
 refine Ai f Z Z b_or λa f=>AL f Z call54 (ih.go m h0 oM hc ht) λv4 G4 Ho4 w hl4 m hQ4 a f=> ?_
 obtain⟨it',M',rfl,rfl,oM',hc'⟩:=hQ4
 refine l_o f (r_max2 (f.e Z) (f.e Z)) λa f=>Ac f Z λa f=>Aa ?_
 refine Aq ?_
 exact⟨[.int .i64 (if s<t then t else s)],f.g Z,f.d,G4,[CH bx va vm,it'],gt hl1 (gt hl2 (gt hl3 hl4)),m,_,_,Z,Z,oM',hc'⟩
set_option maxHeartbeats 2000000 in
theorem Wk.u2 {W:World}(hW:Cr W){F:LI}:∀n:Nat,AfterOk W F n
 |0=>by intro w G H bx va vm itM M k y m h0 oM hc hd;simp[D.l] at hd
 |n+1=>by
  have ih:=Wk.u2 hW (F:=F) n
  intro w G H bx va vm itM M k y m h0 oM hc hd
  have hd0:=hd
  refine Ar (args:=[wPtr bx,(.int .u32 k)]) (N:=55) [.tmp 4] func54 Z Z (lb Z) Z λa f=> ?_
  unfold D.l at hd
  have⟨all,ha,hd⟩:=bind_some hd
  refine Ae ?_
  refine Ac f Z λa f=>Aa (Ag (Ae ?_))
  refine Ab f Z λa f=>Ab f Z λa f=>l_o f (BQ (f.e Z)) λa f=>Bu underlying114 Z sizeOf62 f Z λa f=>AJ 0 0 m hP61 f Z Z Z Z λa f=>A6 f Z call57 (Wk.n m h0 ha) λG1 w hl1 m a f=> ?_
  have h0:=rd1 hl1 h0
  refine Ai f Z Z BS λa f=>Aa ?_
  rcases Af hd with⟨hc1,hd⟩|⟨hc1,hd⟩
  ·obtain rfl:=sj hd
   refine Al f Z hc1 ?_
   refine Ae ?_
   refine Ac f Z λa f=>Aa ?_
   refine Aq ?_
   exact⟨[.int .i64 0],f.g Z,f.d,G1,[CH bx va vm,itM],hl1,m,_,_,Z,Z,oM,hc⟩
  ·refine Ah f Z hc1 ?_
   refine Am ?_
   have⟨us,hus,hd⟩:=bind_some hd
   refine Ag (Ae ?_)
   refine Ab f Z λa f=>l_o f (BQ (f.e Z)) λa f=>Bu underlying114 Z sizeOf112 f Z λa f=>AJ 0 1 m hP83 f Z Z Z Z λa f=>Ab f Z λa f=>l_lookup2 1 m oM Z underlying112 underlying74 zeroValue3 f Z Z Z λo ho a f=>Ab f Z λa f=>l_o f (A9 (f.e Z) Z) λa f=>l_o f (A9 (f.e Z) Z) λa f=>Ac f Z λa f=>Ac f Z λa f=>Ay ?_
   refine Ab f Z λa f=>Aa ?_
   cases o with
   |some z=>
    obtain⟨n',hn'⟩:=hc _ (ho z rfl)
    have hzy:z=y:=wAfterR_det hn' hd0
    subst hzy
    refine Al f Z Z ?_
    refine Ae ?_
    refine Ab f Z λa f=>Ac f Z λa f=>Aa ?_
    refine Aq ?_
    exact⟨[.int .i64 z],f.g Z,f.d,G1,[CH bx va vm,itM],hl1,m,_,_,Z,Z,oM,hc⟩
   |none=>
    refine Ah f Z Z ?_
    refine Am ?_
    refine Ae ?_
    refine Ac f Z λa f=>Aa (Ag (Ae ?_))
    refine Ab f Z λa f=>l_o f (BQ (f.e Z)) λa f=>Bu underlying114 Z sizeOf62 f Z λa f=>AJ 0 0 m hP61 f Z Z Z Z λa f=>A6 f Z call57 (Wk.n m h0 ha) λG2 w hl2 m a f=> ?_
    have h0:=rd1 hl2 h0
    refine Ab f Z λa f=>Ai f Z Z CR λa f=>AL f Z call89 (Wk.i hW m hus) λv3 G3 Ho3 w hl3 m hQ3 a f=> ?_
    obtain⟨vu,itu,rfl,rfl,ou⟩:=hQ3
    have h0:=rd1 hl3 h0
    obtain⟨G4,hl4,m,hu⟩:=ou.stamp (RI.mono _) m
    have h0:=rd1 hl4 h0
    refine AO underlying66 f Z Z hu λa f=>Ab f Z λa f=>Aa ?_
    have hle4:GLe G G4:=gt hl1 (gt hl2 (gt hl3 hl4))
    refine AH (λa w=>∃(G':GH) (it':Itm) (M':List (Int×Int)),GLe G4 G'∧Fr a 55 [(0,wPtr bx),(1,(.int .u32 k)),(7,(iv y))]∧Mem W G' w (CH bx va vm::it'::H)∧OwMp .u32 (Value.int .i64) it' vm M'∧DN F M') ?_ ?_
    ·refine Ak ?_
     refine AC (fun(s:Int×Int) a w=>∃(G':GH) (it':Itm) (M':List (Int×Int)),GLe G4 G'∧Fr a 55 [(0,wPtr bx),(1,(.int .u32 k)),(7,(iv s.1)),(35,vu),(36,(iv (us.length:Int))),(37,(iv s.2))]∧Mem W G' w (CH bx va vm::it'::H)∧OwMp .u32 (Value.int .i64) it' vm M'∧DN F M') hd ⟨_,_,_,gr,f.k Z,m,oM,hc⟩ ?_
     clear hd f m oM hc ho
     rintro⟨best,i⟩ o hs hqq a w ⟨G5,itM,M,hl5,f,m,oM,hc⟩
     dsimp only at f
     have h0:=rd1 hl5 h0
     have hu:=rd1 hl5 hu
     unfold D.f1 at hs
     dsimp only at hs
     refine Ae ?_
     refine Ai f Z Z AE λa f=>Aa (Ag ?_)
     rcases Af hs with⟨hc2,hs⟩|⟨hc2,hs⟩
     ·refine Al f Z hc2 ?_
      refine Am ?_
      have⟨v,hv,hs⟩:=bind_some hs
      have⟨z,hz,hs⟩:=bind_some hs
      obtain rfl:=sj hs
      refine Ag (Ak (Ae ?_))
      refine A2 hT67 f Z Z Z hu hv λp6 c6 a g6 h6 f=> ?_
      subst h6
      refine Ax m hP3 f Z Z g6 λa f=>Ac f Z λa f=>Aa (Aj ?_)
      refine Ab f Z λa f=>Ab f Z λa f=>Ab f Z λa f=>Ab f Z λa f=>AL f Z call91 (Wk.y2 hW ih m h0 oM hc hz) λv7 G7 Ho7 w hl7 m hQ7 a f=> ?_
      obtain⟨itM,M,rfl,rfl,oM,hc⟩:=hQ7
      refine l_o f (r_min2 (f.e Z) (f.e Z)) λa f=>Ac f Z λa f=>Aa (Aj ?_)
      refine Ai f Z Z Aw λa f=>Ab f Z λa f=>Aa ?_
      exact⟨_,Z,G7,_,_,gt hl5 hl7,f.k Z,m,oM,hc⟩
     ·refine Ah f Z hc2 ?_
      refine AA Z ?_
      obtain rfl:=sj hs
      obtain rfl:=hqq _ rfl
      exact⟨G5,_,_,hl5,f.k Z,m,oM,hc⟩
    ·clear hd f m oM hc ho
     rintro a w ⟨G5,itM,M,hl5,f,m,oM,hc⟩
     refine Ae ?_
     refine Ab f Z λa f=>l_o f (BQ (f.e Z)) λa f=>Bu underlying114 Z sizeOf112 f Z λa f=>AJ 0 1 m hP83 f Z Z Z Z λa f=>Ab f Z λa f=>Ab f Z λa f=>l_mapUpdate 1 m oM Z underlying112 underlying74 f Z Z Z λit' M' w hM' m oM=>Ay ?_
     refine Ab f Z λa f=>Ac f Z λa f=>Aa ?_
     refine Aq ?_
     exact⟨[.int .i64 y],f.g Z,f.d,G5,[CH bx va vm,it'],gt hle4 hl5,m,_,_,Z,Z,oM,λkv hkv=>by
      rcases hM' kv hkv with rfl|h
      ·exact⟨n+1,hd0⟩
      ·exact hc kv h⟩
end Go.Proofs.YtkoehcencogjpaaGreatDoor

set_option maxRecDepth 100000
namespace Go.Proofs.YtkoehcencogjpaaGreatDoor
open Go Go.Sx
open Go.Proofs.Tryz Go.Proofs.YtkoehcencogjpaaGreatDoor.Tryz IntKind
variable {W w : World} {G : GH} {H : List Itm}
theorem Mem.third {W:World}{G:GH}{w:World}{a b c:Itm}{H:List Itm}(m:Mem W G w (a::b::c::H)):Mem W G w (b::c::a::H):=
 Mem.flip (A:=[b]) m.swap
set_option maxHeartbeats 2000000 in
theorem Wk.Z0 {v0:Value}{x0:LI}(hW:Cr W)(m:Mem W G w H)(h0:RSl (RI .u32) G v0 x0){y:LI}(hd:D.Z0 x0=some y):
  Calls prog 50 #[v0] w (Res W G H (λG' Ho v=>∃r0:Value,∃i0:Itm,Ho=[i0]∧r0=v∧Ow R0 3 G' i0 r0 y)):=by
 refine Ar (args:=[v0]) (N:=44) [.tmp 2] func50 Z Z (lb Z) Z λa f=> ?_
 unfold D.Z0 at hd
 have⟨most,hmost,hd⟩:=bind_some hd
 refine Ae ?_
 refine Ac f Z λa f=>Ay ?_
 refine Ab f Z λa f=>AL f Z call53 (Wk.w2 m h0) λv1 G1 Ho1 w hl1 m hQ1 a f=> ?_
 obtain⟨bx,vm,itM,rfl,rfl,oM⟩:=hQ1
 have h0:=rd1 hl1 h0
 refine AP (R:=R0) (xs:=([]:LI)) (RI.one _) m hT67 f Z Z Z (by decide) (All2.nil _) λio vo w a m oo f=>Ac f Z λa f=>Ac f Z λa f=>Ac f Z λa f=>Aa ?_
 have m:Mem W G1 w (CH bx v0 vm::itM::io::H):=Mem.third m
 refine Ae ?_
 refine Ab f Z λa f=>AL f Z call54 ((Wk.u2 hW BL).go m h0 oM (λkv h=>by simp at h) hmost) λv2 G2 Ho2 w hl2 m hQ2 a f=> ?_
 obtain⟨itM,M,rfl,rfl,oM,hc⟩:=hQ2
 have h0:=rd1 hl2 h0
 have oo:=od1 hl2 oo
 refine Ac f Z λa f=>Aa ?_
 have hle2:GLe G G2:=gt hl1 hl2
 refine Ag ?_
 refine AH (λa w=>∃(G':GH) (vo:Value) (io it':Itm),GLe G2 G'∧Fr a 44 [(4,vo)]∧Mem W G' w (CH bx v0 vm::it'::io::H)∧Ow R0 3 G' io vo y) ?_ ?_
 ·refine Ak ?_
  refine AC (fun(s:LI×Int) a w=>∃(G':GH) (vo:Value) (io it':Itm) (M':List (Int×Int)),GLe G2 G'∧Fr a 44 [(0,v0),(3,wPtr bx),(4,vo),(5,(.int .u32 s.2)),(6,(iv most))]∧Mem W G' w (CH bx v0 vm::it'::io::H)∧Ow R0 3 G' io vo s.1∧OwMp .u32 (Value.int .i64) it' vm M'∧DN x0 M') hd ⟨_,_,_,_,_,gr,f.k Z,m,oo,oM,hc⟩ ?_
  clear hd f m oo oM hc
  rintro⟨out,gone⟩ o hs hqq a w ⟨G3,vo,io,itM,M,hl3,f,m,oo,oM,hc⟩
  dsimp only at f oo
  have h0:=rd1 hl3 h0
  unfold D.r2 at hs
  dsimp only at hs
  have⟨all,ha,hs⟩:=bind_some hs
  refine Ag (Ae ?_)
  refine Ab f Z λa f=>Ab f Z λa f=>A6 f Z call57 (Wk.n m h0 ha) λG4 w hl4 m a f=> ?_
  have h0:=rd1 hl4 h0
  have oo:=od1 hl4 oo
  refine Ai f Z Z B8 λa f=>Aa ?_
  rcases Af hs with⟨hc1,hs⟩|⟨hc1,hs⟩
  ·refine Al f Z hc1 ?_
   refine Am ?_
   have⟨us,hus,hs⟩:=bind_some hs
   have⟨q,hq,hs⟩:=bind_some hs
   obtain rfl:=sj hs
   refine Ak (Ae ?_)
   refine Ab f Z λa f=>A6 f Z call57 (Wk.n m h0 ha) λG5 w hl5 m a f=> ?_
   have h0:=rd1 hl5 h0
   have oo:=od1 hl5 oo
   refine Ab f Z λa f=>Ai f Z Z CR λa f=>AL f Z call89 (Wk.i hW m hus) λv6 G6 Ho6 w hl6 m hQ6 a f=> ?_
   obtain⟨vu,itu,rfl,rfl,ou⟩:=hQ6
   have h0:=rd1 hl6 h0
   have oo:=od1 hl6 oo
   obtain⟨G7,hl7,m,hu⟩:=ou.stamp (RI.mono _) m
   have h0:=rd1 hl7 h0
   have oo:=od1 hl7 oo
   refine AO underlying66 f Z Z hu λa f=>Ab f Z λa f=>Aa ?_
   have hle7:GLe G2 G7:=gt hl3 (gt hl4 (gt hl5 (gt hl6 hl7)))
   refine Ak ?_
   refine AC (fun(i:Int) a w=>∃(G':GH) (vo:Value) (io it':Itm) (M':List (Int×Int)),GLe G7 G'∧Fr a 44 [(0,v0),(3,wPtr bx),(4,vo),(5,(.int .u32 gone)),(6,(iv most)),(22,vu),(23,(iv (us.length:Int))),(24,(iv i))]∧Mem W G' w (CH bx v0 vm::it'::io::H)∧Ow R0 3 G' io vo out∧OwMp .u32 (Value.int .i64) it' vm M'∧DN x0 M') hq ⟨_,_,_,_,_,gr,f.k Z,m,oo,oM,hc⟩ ?_
   clear hq f m oo oM hc
   rintro i o' hs' hqq' a w ⟨G8,vo,io,itM,M,hl8,f,m,oo,oM,hc⟩
   have h0:=rd1 hl8 h0
   have hu:=rd1 hl8 hu
   unfold D.s2 at hs'
   refine Ae ?_
   refine Ai f Z Z AE λa f=>Aa (Ag ?_)
   rcases Af hs' with⟨hc2,hs'⟩|⟨hc2,hs'⟩
   ·refine Al f Z hc2 ?_
    refine Am ?_
    obtain⟨v,hv,hs'⟩:=bind_some hs'
    obtain⟨z,hz,hs'⟩:=bind_some hs'
    refine Ag (Ak (Ae ?_))
    refine A2 hT67 f Z Z Z hu hv λp9 c9 a g9 h9 f=> ?_
    subst h9
    refine Ax m hP3 f Z Z g9 λa f=>Ac f Z λa f=>Ay ?_
    refine Ab f Z λa f=>Ab f Z λa f=>Ab f Z λa f=>AL f Z call91 (Wk.y2 hW (Wk.u2 hW BL) m h0 oM hc hz) λv10 G10 Ho10 w hl10 m hQ10 a f=> ?_
    obtain⟨itM,M,rfl,rfl,oM,hc⟩:=hQ10
    have oo:=od1 hl10 oo
    refine Ab f Z λa f=>Ai f Z Z CD λa f=>Aa ?_
    rcases Af hs' with⟨hc3,hs'⟩|⟨hc3,hs'⟩
    ·obtain⟨o2,ho2,hs'⟩:=bind_some hs'
     obtain⟨b,hb,hs'⟩:=bind_some hs'
     obtain rfl:=sj hs'
     obtain rfl:=hqq' _ rfl
     refine Al f Z hc3 ?_
     refine Ae ?_
     refine Ab f Z λa f=>Ab f Z λa f=>AP (R:=R0) (xs:=([v]:LI)) (RI.one _) m hT67 f Z Z Z (by decide) (All2.cons Z (All2.nil _)) λis vs w a m os f=>AW (RI.one _) 3 m oo Z hT67 Z (by decide) f Z Z Z (os.src (j:=0) m Z) ho2 λio vo w a m oo f=> ?_
     have m:Mem W G10 w (CH bx v0 vm::itM::io::H):=Mem.tail m
     refine Ac f Z λa f=>Ay ?_
     refine Ab f Z λa f=>Ab f Z λa f=>A6 f Z call87 (Wk.f m hb) λG11 w hl11 m a f=> ?_
     have oo:=od1 hl11 oo
     refine Ai f Z Z b_or λa f=>Ac f Z λa f=>Aa ?_
     refine AA Z ?_
     exact⟨_,Z,G11,_,_,_,_,gt hle7 (gt hl8 (gt hl10 hl11)),f.k Z,m,oo,oM,hc⟩
    ·obtain rfl:=sj hs'
     refine Ah f Z hc3 ?_
     refine Am ?_
     refine Aj ?_
     refine Ai f Z Z Aw λa f=>Ab f Z λa f=>Aa ?_
     exact⟨_,Z,G10,_,_,_,_,gt hl8 hl10,f.k Z,m,oo,oM,hc⟩
   ·refine Ah f Z hc2 ?_
    refine AA Z ?_
    obtain rfl:=sj hs'
    obtain rfl:=hqq' _ rfl
    exact⟨_,Z,G8,_,_,_,_,gt hle7 hl8,f.k Z,m,oo,oM,hc⟩
  ·refine Ah f Z hc1 ?_
   refine AA Z ?_
   obtain rfl:=sj hs
   obtain rfl:=hqq _ rfl
   exact⟨G4,_,_,_,gt hl3 hl4,f.k Z,m,oo⟩
 ·clear hd f m oo oM hc
  rintro a w ⟨G3,vo,io,itM,hl3,f,m,oo⟩
  refine Ae ?_
  refine Ab f Z λa f=>Ac f Z λa f=>Aa ?_
  refine Aq ?_
  exact⟨[vo],f.g Z,f.d,G3,[io],gt hle2 hl3,m.tail.tail,_,_,Z,Z,oo⟩
end Go.Proofs.YtkoehcencogjpaaGreatDoor
