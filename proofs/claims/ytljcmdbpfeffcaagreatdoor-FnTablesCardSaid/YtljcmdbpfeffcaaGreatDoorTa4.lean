/- Parts. -/
import Derived.Test.YtljcmdbpfeffcaaGreatDoorTa3
import Derived.Test.YtljcmdbpfeffcaaGreatDoorProg
import Derived.KernelRfl
set_option linter.unusedVariables false
set_option linter.unusedSimpArgs false
set_option linter.unusedSectionVars false
set_option maxRecDepth 100000
namespace Go.Proofs.YtljcmdbpfeffcaaGreatDoor
open Go Go.Sx
open Go.Proofs.Tryz Go.Proofs.YtljcmdbpfeffcaaGreatDoor.Tryz IntKind
variable {W w : World} {G : GH} {H : List Itm}
theorem Wk.y1 {aa ab ac:Value}{ad ae af:LL}(m:Mem W G w (H))(ag:R2 G aa ad)(ah:R2 G ab ae)(ai:R2 G ac af){y:Bool}(hd:D.y1 ad ae af=some y):
  Calls prog 36 #[(.agg #[aa]),(.agg #[ab,ac])] w (Res W G H (λ_ Ho v=>Ho=[]∧v=(.bool y))):=by
 refine Au (args:=[(.agg #[aa]),(.agg #[ab,ac])]) (N:=69) [.tmp 4] func36 Z Z (lb Z) Z λa f=> ?_
 unfold D.y1 at hd
 refine Ae (A3 (cs:=[aa]) m f Z Z Z λaj w a m f=>A3 (cs:=[ab,ac]) m f Z Z Z λak w a m f=>Ac f Z λa f=>Aa (Ah (Ae (Ay 1 0 (ds:=[aa]) m Bh f Z Z Z Z Z λa f=>Bd hd λal am hd=>A2 f Z call40 (Wk.r m ag am) λan w ao m a f=>have ag:=rd2 ao ag;have ah:=rd2 ao ah;have ai:=rd2 ao ai;l_o f (Bj (f.e Z)) λa f=>Ab f Z λa f=>Bd hd λap aq hd=> ?_))))
 refine Bk 4 (λa w=>∃ar,GLe an ar∧Mem W ar w (ib ak 32 [ab,ac]::ib aj 29 [aa]::H)∧Fr a 69 [(0,(.agg #[aa])),(1,(.agg #[ab,ac])),(2,pb aj),(3,pb ak),(10,(.agg #[aa])),(11,(.bool al)),(12,(.bool (!al))),(13,(.bool (!al))),(17,(.bool ap))]) ?_ ?_
 ·rcases Ag aq with⟨au,aq⟩|⟨au,aq⟩
  ·refine Aq f au λa f=>Aq f au λa f=>Aq f au λa f=>l_o f (AK (f.e Z) au (f.e Z)) λa f=> ?_
   obtain rfl:=sj aq
   exact⟨_,gr,m,f.k Z⟩
  ·refine Ap f au (Ay 0 0 (ds:=[ab,ac]) m DH f Z Z Z Z Z λa f=>Ap f au (Bd aq λav aw aq=>A2 f Z call97 (Wk.C1 m ah ai aw) λax w ay m a f=>Ap f au (l_o f (Bj (f.e Z)) λa f=>l_o f (AI (f.e Z) au (f.e Z)) λa f=> ?_)))
   obtain rfl:=sj aq
   exact⟨_,ay,m,f.k Z⟩
 ·rintro a w ⟨ar,az,m,f⟩
  refine have ag:=rd2 az ag;have ah:=rd2 az ah;have ai:=rd2 az ai;Aa ?_
  rcases Ag hd with⟨aA,hd⟩|⟨aA,hd⟩
  ·refine Am f Z aA (Ae (Ac f Z λa f=>Aa (Ar (have m:=m.dp 2;?_))))
   obtain rfl:=sj hd
   exact⟨[(.bool false)],f.g Z,f.d,_,[],(gt ao az),m,Z,Z⟩
  ·refine Ak f Z aA (An (Ah (Ae (Ac f Z λa f=>Aa (Bd hd λaB aC hd=> ?_)))))
   refine AL (λa w=>∃q_73':Unit,aB= .inl q_73'∧∃(aD:GH),GLe ar aD∧Fr a 69 [(2,pb aj),(3,pb ak)]∧Mem W aD w (ib aj 29 [aa]::ib ak 32 [ab,ac]::H)) ?_ ?_
   ·refine Al (have m:=m.fr 1;AM (λaE a w=>∃aF:Int,aF=aE∧∃(aG:GH),GLe ar aG∧Fr a 69 [(2,pb aj),(3,pb ak),(5,iv aF)]∧Mem W aG w (ib aj 29 [aa]::ib ak 32 [ab,ac]::H)) aC ⟨_,Z,_,gr,f.k Z,m⟩ ?_)
    clear aC f m
    rintro aE aH aI aJ a w ⟨aF,rfl,aG,aK,f,m⟩
    refine have ag:=rd2 aK ag;have ah:=rd2 aK ah;Ah (Ae (Ab f Z λa f=>AQ underlying32 Z sizeOf27 f Z λa f=>Ao 1 0 m AW f Z Z Z Z λa f=>AN underlying27 f Z Z ah λa f=>Ai f Z Z AP λa f=>Aa ?_))
    rcases Ag aI with⟨aL,aI⟩|⟨aL,aI⟩
    ·refine Am f Z aL (An (Ah (Al (Ah (Bg 9 AV (by kernel_rfl) m (Br 0 9 underlying32 Z sizeOf27 Z f Z λa f=>Bo 1 9 1 AW Z Z Z f Z λa f=>As 2 9 Z f Z λa f=>Bd aI λaM aN aI=>Bb 3 9 T27 ah aN Z f Z Z λaO aP a aQ aR f=>Ba 4 9 AY aQ Z f Z λa f=>Bc (i:=5) (ds:=[aa]) 9 0 Bh Z Z Z Z (by kernel_rfl) Z f Z Z Z λa f=>Bd aI λaS aT aI=>B4 (i:=6) 9 Z (by kernel_rfl) Z f Z Z Z call83 (λ_ _ w aU m=>Wk.d m (rd2 aU ag) aT) λa f=>Bd aI λaV aW aI=>B4 (i:=7) 9 Z (by kernel_rfl) Z f Z Z Z call79 (λ_ _ w aX m=>Wk.A m (rd1 aX aR) aW) λa f=>q_p 8 9 Z f (λ_=>Bj (f.e Z)) λa f=>A4 λaY w aZ m=>Aa ?_))))))
     rcases Ag aI with⟨a0,aI⟩|⟨a0,aI⟩
     ·refine Am f Z a0 (Ae (Ac f Z λa f=>Aa (Ar (have m:=m.dp 2;?_))))
      obtain rfl:=sj aI
      obtain rfl:=aJ _ rfl
      obtain rfl:=sj hd
      exact⟨[(.bool false)],f.g Z,f.d,_,[],(gt ao (gt az (gt aK aZ))),m,Z,Z⟩
     ·refine Ak f Z a0 (An (Aj (Ab f Z λa f=>Ai f Z Z AB λa f=>Ac f Z λa f=>Aa ?_)))
      obtain rfl:=sj aI
      exact⟨_,Z,_,Z,_,(gt aK aZ),f.k Z,m⟩
    ·refine Ak f Z aL (AE Z ?_)
     obtain rfl:=sj aI
     obtain rfl:=aJ _ rfl
     exact⟨_,Z,_,aK,f.k Z,m⟩
   ·rintro a w ⟨_,rfl,aD,a1,f,m⟩
    refine have ag:=rd2 a1 ag;have ah:=rd2 a1 ah;have ai:=rd2 a1 ai;Ae (Ay 0 0 (ds:=[aa]) m Bh f Z Z Z Z Z λa f=>Bd hd λa2 a3 hd=>BK f Z call98 (Wk.o0 m ag a3) λa4 a5 a6 w a7 m a8 a f=>have ag:=rd2 a7 ag;have ah:=rd2 a7 ah;have ai:=rd2 a7 ai;Ac f Z λa f=>Aa (Ah (Ae (Ac f Z λa f=>Aa (Bd hd λa9 ba hd=> ?_)))))
    refine AL (λa w=>∃q_155':Unit,a9= .inl q_155'∧∃(bb:GH),GLe a6 bb∧Fr a 69 [(2,pb aj),(3,pb ak)]∧Mem W bb w (ib aj 29 [aa]::ib ak 32 [ab,ac]::H)) ?_ ?_
    ·refine Al (have m:=m.fr 2;have m:=m.fr 2;AM (λbc a w=>∃bd:Int,bd=bc∧∃(be:GH),GLe a6 be∧Fr a 69 [(2,pb aj),(3,pb ak),(6,a4),(7,iv bd)]∧Mem W be w (ib aj 29 [aa]::ib ak 32 [ab,ac]::a5::H)) ba ⟨_,Z,_,gr,f.k Z,m⟩ ?_)
     clear ba f m
     rintro bc bf bg bh a w ⟨bd,rfl,be,bi,f,m⟩
     refine have ah:=rd2 bi ah;have ai:=rd2 bi ai;have a8:=od3 bi a8;Ah (Ae (Ab f Z λa f=>Ab f Z λa f=>BH 2 m a8 Z underlying27 f Z Z λa f=>Ai f Z Z AP λa f=>Aa ?_))
     rcases Ag bg with⟨bj,bg⟩|⟨bj,bg⟩
     ·refine Am f Z bj (An (Ah (Al (Ah (Bg 7 AV (by kernel_rfl) m (Bc (i:=0) (ds:=[ab,ac]) 7 1 DH Z Z Z Z (by kernel_rfl) Z f Z Z Z λa f=>As 1 7 Z f Z λa f=>As 2 7 Z f Z λa f=>Bd bg λbk bl bg=>DD 3 7 2 m a8 T27 bl Z f Z Z λbm a bn f=>Ew 4 7 2 a8 AY bn bl Z f Z λbo a bp f=>Bd bg λbq br bg=>B4 (i:=5) 7 Z (by kernel_rfl) Z f Z Z Z call99 (λ_ _ w bs m=>Wk.f1 m (rd2 bs ah) (rd2 bs ai) (rd1 bs bp) br) λa f=>q_p 6 7 Z f (λ_=>Bj (f.e Z)) λa f=>A4 λbt w bu m=>Aa ?_))))))
      rcases Ag bg with⟨bv,bg⟩|⟨bv,bg⟩
      ·refine Am f Z bv (Ae (Ac f Z λa f=>Aa (Ar (have m:=m.dp 3;?_))))
       obtain rfl:=sj bg
       obtain rfl:=bh _ rfl
       obtain rfl:=sj hd
       exact⟨[(.bool false)],f.g Z,f.d,_,[],(gt ao (gt az (gt a1 (gt a7 (gt bi bu))))),m,Z,Z⟩
      ·refine Ak f Z bv (An (Aj (Ab f Z λa f=>Ai f Z Z AB λa f=>Ac f Z λa f=>Aa ?_)))
       obtain rfl:=sj bg
       exact⟨_,Z,_,Z,_,(gt bi bu),f.k Z,m⟩
     ·refine Ak f Z bj (AE Z (have m:=m.eraseAt 2;?_))
      obtain rfl:=sj bg
      obtain rfl:=bh _ rfl
      exact⟨_,Z,_,bi,f.k Z,m⟩
    ·rintro a w ⟨_,rfl,bb,bw,f,m⟩
     refine have ag:=rd2 bw ag;have ah:=rd2 bw ah;have ai:=rd2 bw ai;Ah (Ae (Ac f Z λa f=>Aa (Bd hd λbx bz hd=> ?_)))
     refine AL (λa w=>∃q_304':Unit,bx= .inl q_304'∧∃(bA:GH),GLe bb bA∧Fr a 69 []∧Mem W bA w (H)) ?_ ?_
     ·refine Al (AM (λbB a w=>∃bC:Int,bC=bB∧∃(bD:GH),GLe bb bD∧Fr a 69 [(2,pb aj),(3,pb ak),(8,iv bC)]∧Mem W bD w (ib aj 29 [aa]::ib ak 32 [ab,ac]::H)) bz ⟨_,Z,_,gr,f.k Z,m⟩ ?_)
      clear bz f m
      rintro bB bE bF bG a w ⟨bC,rfl,bD,bH,f,m⟩
      refine have ag:=rd2 bH ag;have ah:=rd2 bH ah;have ai:=rd2 bH ai;Ah (Ae (Ab f Z λa f=>Ay 0 0 (ds:=[aa]) m Bh f Z Z Z Z Z λa f=>Bd bF λbI bJ bF=>A2 f Z call83 (Wk.d m ag bJ) λbK w bL m a f=>have ah:=rd2 bL ah;have ai:=rd2 bL ai;Ai f Z Z AP λa f=>Aa ?_))
      rcases Ag bF with⟨bM,bF⟩|⟨bM,bF⟩
      ·refine Am f Z bM (An (Ah (Al (Ae (Ay 1 0 (ds:=[ab,ac]) m DH f Z Z Z Z Z λa f=>Ab f Z λa f=>Bd bF λbN bO bF=>BK f Z call100 (Wk.i1 m ah ai bO) λbP bQ bR w bS m bT a f=>have ah:=rd2 bS ah;have ai:=rd2 bS ai;Ac f Z λa f=>AF (Ab f Z λa f=>BH 0 m bT Z underlying35 f Z Z λa f=>Ai f Z Z Bf λa f=>Ab f Z λa f=>Bd bF λbU bV bF=> ?_))))))
       refine Bk 7 (λa w=>∃bW,GLe bR bW∧Mem W bW w (bQ::ib aj 29 [aa]::ib ak 32 [ab,ac]::H)∧Fr a 69 [(2,pb aj),(3,pb ak),(8,iv bC),(9,bP),(58,bP),(59,(iv (bN.length:Int))),(60,(.bool ((bN.length:Int)==0))),(61,(.bool ((bN.length:Int)==0))),(68,(.bool bU))]) ?_ ?_
       ·rcases Ag bV with⟨bX,bV⟩|⟨bX,bV⟩
        ·refine Aq f bX λa f=>Aq f bX λa f=>Aq f bX λa f=>Aq f bX λa f=>Aq f bX λa f=>Aq f bX λa f=>l_o f (AK (f.e Z) bX (f.e Z)) λa f=> ?_
         obtain rfl:=sj bV
         exact⟨_,gr,m,f.k Z⟩
        ·refine Ap f bX (Ay 2 0 (ds:=[ab,ac]) m DH f Z Z Z Z Z λa f=>Ap f bX (Ab f Z λa f=>Ap f bX (Bd bV λbY bZ bV=>A9 f Z call101 (Ow.lendCall (RI.mono _) 0 bT m Z (λb0 b1 m b2=>Wk.b0 m (rd2 b1 ah) (rd2 b1 ai) b2 bZ) (λ_ _ _ _ h=>h)) λb3 b4 b5 w b6 m b7 a f=> ?_)))
         obtain⟨rfl,rfl⟩:=b7
         refine have bT:=od1 b6 bT;Ap f bX (Ab f Z λa f=>Ap f bX (BH 0 m bT Z underlying35 f Z Z λa f=>Ap f bX (Ai f Z Z Cw λa f=>l_o f (AI (f.e Z) bX (f.e Z)) λa f=> ?_)))
         obtain rfl:=sj bV
         exact⟨_,b6,m,f.k Z⟩
       ·rintro a w ⟨bW,b8,m,f⟩
        refine Aa ?_
        rcases Ag bF with⟨b9,bF⟩|⟨b9,bF⟩
        ·refine Am f Z b9 (Ae (Ac f Z λa f=>Aa (Ar (have m:=m.dp 3;?_))))
         obtain rfl:=sj bF
         obtain rfl:=bG _ rfl
         obtain rfl:=sj hd
         exact⟨[(.bool false)],f.g Z,f.d,_,[],(gt ao (gt az (gt a1 (gt a7 (gt bw (gt bH (gt bL (gt bS b8)))))))),m,Z,Z⟩
        ·refine Ak f Z b9 (An (Aj (Ab f Z λa f=>Ai f Z Z AB λa f=>Ac f Z λa f=>Aa (have m:=m.fr 2;have m:=m.fr 2;have m:=m.eraseAt 2;?_))))
         obtain rfl:=sj bF
         exact⟨_,Z,_,Z,_,(gt bH (gt bL (gt bS b8))),f.k Z,m⟩
      ·refine Ak f Z bM (AE Z (have m:=m.dp 2;?_))
       obtain rfl:=sj bF
       obtain rfl:=bG _ rfl
       exact⟨_,Z,_,(gt bH bL),f.weak trivial,m⟩
     ·rintro a w ⟨_,rfl,bA,ca,f,m⟩
      refine Ae (Ac f Z λa f=>Aa (Ar ?_))
      obtain rfl:=sj hd
      exact⟨[(.bool true)],f.g Z,f.d,_,[],(gt ao (gt az (gt a1 (gt a7 (gt bw ca))))),m,Z,Z⟩
theorem Wk.J0 {aa ab:Value}{ac ad:LL}{x1 x2:Int}(m:Mem W G w (H))(ae:R2 G aa ac)(af:R2 G ab ad){y:Bool}(hd:D.J0 ac ad x1 x2=some y):
  Calls prog 102 #[(.agg #[aa,ab]),iv x1,iv x2] w (Res W G H (λ_ Ho v=>Ho=[]∧v=(.bool y))):=by
 refine Au (args:=[(.agg #[aa,ab]),iv x1,iv x2]) (N:=44) [.tmp 6] func102 Z Z (lb Z) Z λa f=> ?_
 unfold D.J0 at hd
 refine Ae (A3 (cs:=[aa,ab]) m f Z Z Z λag w a m f=>Ac f Z λa f=>Aa (Ah (Ae (Ac f Z λa f=>Aa (Bd hd λah ai hd=> ?_)))))
 refine AL (λa w=>∃q_115':Unit,ah= .inl q_115'∧∃(aj:GH),GLe G aj∧Fr a 44 []∧Mem W aj w (H)) ?_ ?_
 ·refine Al (AM (λak a w=>∃al:Int,al=ak∧∃(am:GH),GLe G am∧Fr a 44 [(1,iv x1),(2,iv x2),(3,pb ag),(7,iv al)]∧Mem W am w (ib ag 32 [aa,ab]::H)) ai ⟨_,Z,_,gr,f.k Z,m⟩ ?_)
  clear ai f m
  rintro ak an ao ap a w ⟨al,rfl,am,aq,f,m⟩
  refine have af:=rd2 aq af;Ah (Ae (Ab f Z λa f=>AQ underlying32 Z sizeOf27 f Z λa f=>Ao 0 1 m AW f Z Z Z Z λa f=>AN underlying27 f Z Z af λa f=>Ai f Z Z AP λa f=>Aa ?_))
  rcases Ag ao with⟨ar,ao⟩|⟨ar,ao⟩
  ·refine Am f Z ar (An (Ah (Al (Ah (Bg 29 AV (by kernel_rfl) m (Br 0 29 underlying32 Z sizeOf27 Z f Z λa f=>Bo 1 29 0 AW Z Z Z f Z λa f=>As 2 29 Z f Z λa f=>Bd ao λau av ao=>Bb 3 29 T27 af av Z f Z Z λaw ax a ay az f=>Ba 4 29 AY ay Z f Z λa f=>Bd ao λaA aB ao=>Bb 5 29 T35 az aB Z f Z Z λaC aD a aE aF f=> ?_))))))
   subst aF
   refine Ba 6 29 Pl2 aE Z f Z λa f=>As 7 29 Z f Z λa f=>As 8 29 Z f Z λa f=>Bd ao λaG aH ao=>B4 (i:=9) 29 Z (by kernel_rfl) Z f Z Z Z call85 (λ_ _ w aI m=>Wk.x0 m aH) λa f=>q_p 10 29 Z f (λ_=>BB (f.e Z) (f.e Z) Bf) λa f=>As 11 29 Z f Z λa f=>Bd ao λaJ aK ao=>CW (fuel':=5) (listed':= #[true,true,true,true,true,true,true,true,true,true,true,true,true,true,true,true,true,true,true,true,true,true,true,true,false,false,false,false,false]) (λa=>Fr a 44 [(1,iv x1),(2,iv x2),(3,pb ag),(7,iv al),(12,(.bool (decide (al<(ad.length:Int))))),(15,(.pointer (some ⟨ag,1,none⟩))),(16,ab),(17,iv al),(18,aw),(19,ax),(20,aC),(21,iv aA),(22,iv x1),(23,iv x2),(24,iv aG),(25,(.bool (aA==aG))),(26,(.bool (aA==aG))),(38,(.bool aJ))]) ?_ ?_
   ·intro a f
    refine As 24 29 Z f Z λa f=>CW (fuel':=0) (listed':= #[true,true,true,true,true,true,true,true,true,true,true,true,true,true,true,true,true,true,true,true,true,true,true,true,true,true,true,true,true]) (λa=>Fr a 44 [(1,iv x1),(2,iv x2),(3,pb ag),(7,iv al),(12,(.bool (decide (al<(ad.length:Int))))),(15,(.pointer (some ⟨ag,1,none⟩))),(16,ab),(17,iv al),(18,aw),(19,ax),(20,aC),(21,iv aA),(22,iv x1),(23,iv x2),(24,iv aG),(25,(.bool (aA==aG))),(26,(.bool (aA==aG))),(38,(.bool aJ)),(39,(.bool aJ)),(43,(.bool (aJ&&(x1 !=x2))))]) ?_ ?_
    ·intro a f
     refine A4 λaL w aM m=>Aa ?_
     rcases Ag ao with⟨aN,ao⟩|⟨aN,ao⟩
     ·refine Am f Z aN (Ae (Ac f Z λa f=>Aa (Ar (have m:=m.dp 1;?_))))
      obtain rfl:=sj ao
      obtain rfl:=ap _ rfl
      obtain rfl:=sj hd
      exact⟨[(.bool true)],f.g Z,f.d,_,[],(gt aq aM),m,Z,Z⟩
     ·refine Ak f Z aN (An (Aj (Ab f Z λa f=>Ai f Z Z AB λa f=>Ac f Z λa f=>Aa ?_)))
      obtain rfl:=sj ao
      exact⟨_,Z,_,Z,_,(gt aq aM),f.k Z,m⟩
    ·intro aO
     rcases Bool.eq_false_or_eq_true aJ with aP|aP
     ·exact As (hw:=wo f aP) 25 29 Z f Z λa f=>As (hw:=wo f aP) 26 29 Z f Z λa f=>q_p (hw:=wo f aP) 27 29 Z f (λ_=>BB (f.e Z) (f.e Z) Cw) λa f=>q_p 28 29 Z f (λ_=>AK (f.e Z) aP (f.e Z)) λa f=>aO _ (f.weak ⟨Z,Z,Z,Z,Z,Z,Z,Z,Z,Z,Z,Z,Z,Z,Z,Z,Z,Z,Z,by rw[aP];rfl,trivial⟩)
     ·exact AA 25 29 Z f aP λa f=>AA 26 29 Z f aP λa f=>AA 27 29 Z f aP λa f=>q_p 28 29 Z f (λ_=>AI (f.e Z) aP (f.e Z)) λa f=>aO _ (f.weak ⟨Z,Z,Z,Z,Z,Z,Z,Z,Z,Z,Z,Z,Z,Z,Z,Z,Z,Z,Z,by rw[aP];rfl,trivial⟩)
   ·intro aQ
    rcases Ag aK with⟨aR,aK⟩|⟨aR,aK⟩
    ·refine Br (hw:=wo f aR) 12 29 underlying32 Z sizeOf27 Z f Z λa f=>Bo (hw:=wo f aR) 13 29 0 AW Z Z Z f Z λa f=>As (hw:=wo f aR) 14 29 Z f Z λa f=>Bd aK λaS aT aK=>Bb (hw:=wo f aR) 15 29 T27 af aT Z f Z Z λaU aV a aW aX f=>Ba (hw:=wo f aR) 16 29 AY aW Z f Z λa f=>Bd aK λaY aZ aK=>Bb (hw:=wo f aR) 17 29 T35 aX aZ Z f Z Z λa0 a1 a a2 a3 f=> ?_
     subst a3
     refine Ba (hw:=wo f aR) 18 29 Pl2 a2 Z f Z λa f=>As (hw:=wo f aR) 19 29 Z f Z λa f=>As (hw:=wo f aR) 20 29 Z f Z λa f=>Bd aK λa4 a5 aK=>B4 (i:=21) 29 Z (by kernel_rfl) Z f (Bs f Z Z Z aR) Z Z call77 (λ_ _ w a6 m=>Wk.M m a5) λa f=>q_p (hw:=wo f aR) 22 29 Z f (λ_=>BB (f.e Z) (f.e Z) Bf) λa f=>q_p 23 29 Z f (λ_=>AK (f.e Z) aR (f.e Z)) λa f=> ?_
     obtain rfl:=sj aK
     exact aQ _ (f.k Z)
    ·refine AA 12 29 Z f aR λa f=>AA 13 29 Z f aR λa f=>AA 14 29 Z f aR λa f=>AA 15 29 Z f aR λa f=>AA 16 29 Z f aR λa f=>AA 17 29 Z f aR λa f=>AA 18 29 Z f aR λa f=>AA 19 29 Z f aR λa f=>AA 20 29 Z f aR λa f=>AA 21 29 Z f aR λa f=>AA 22 29 Z f aR λa f=>q_p 23 29 Z f (λ_=>AI (f.e Z) aR (f.e Z)) λa f=> ?_
     obtain rfl:=sj aK
     exact aQ _ (f.k Z)
  ·refine Ak f Z ar (AE Z (have m:=m.dp 1;?_))
   obtain rfl:=sj ao
   obtain rfl:=ap _ rfl
   exact⟨_,Z,_,aq,f.weak trivial,m⟩
 ·rintro a w ⟨_,rfl,aj,a7,f,m⟩
  refine Ae (Ac f Z λa f=>Aa (Ar ?_))
  obtain rfl:=sj hd
  exact⟨[(.bool false)],f.g Z,f.d,_,[],a7,m,Z,Z⟩
theorem Wk.X0 {v0:Value}{x0:LI}{x1:Int}(m:Mem W G w (H))(h0:R1 G v0 x0){y:(LI)}(hd:D.X0 x0 x1=some y):
  Calls prog 103 #[v0,iv x1] w (Res W G H (λG' Ho v=>∃r0:Value,∃i0:Itm,Ho=[i0]∧r0=v∧Ow R0 2 G' i0 r0 y)):=by
 refine Au (args:=[v0,iv x1]) (N:=28) [.tmp 4] func103 Z Z (lb Z) Z λa f=> ?_
 unfold D.X0 at hd
 refine Ae (Ac f Z λa f=>AF (AO (R:=R0) (xs:=([]:LI)) (RI.one _) m T35 f Z Z Z (by decide) (All2.nil _) λaa ab w a m ac f=>Ac f Z λa f=>Aa (Ah (Ae (Ac f Z λa f=>Aa (Bd hd λad ae hd=> ?_))))))
 refine AL (λa w=>∃af:LI,af=ad∧∃(ag:GH) (ah:Value) (ai:Itm),GLe G ag∧Fr a 28 [(5,ah)]∧Mem W ag w (ai::H)∧Ow R0 2 ag ai ah af) ?_ ?_
 ·refine Al (AM (λaj a w=>∃ak:LI,∃al:Int,(ak,al)=aj∧∃(am:GH) (an:Value) (ao:Itm),GLe G am∧Fr a 28 [(0,v0),(1,iv x1),(5,an),(6,iv al)]∧Mem W am w (ao::H)∧Ow R0 2 am ao an ak) ae ⟨_,_,Z,_,ab,aa,gr,f.k Z,m,ac⟩ ?_)
  clear ae f m
  rintro aj ap aq ar a w ⟨ak,al,rfl,am,an,ao,au,f,m,av⟩
  refine have h0:=rd1 au h0;Ah (Ae (Ab f Z λa f=>Ab f Z λa f=>AN underlying35 f Z Z h0 λa f=>Ai f Z Z AP λa f=>Aa ?_))
  rcases Ag aq with⟨aw,aq⟩|⟨aw,aq⟩
  ·refine Am f Z aw (An (Ah (Al (Ae (Ab f Z λa f=>Ab f Z λa f=>Bd aq λax ay aq=>AX T35 f Z Z Z h0 ay λaz aA a aB aC f=> ?_)))))
   subst aC
   refine Aw m Pl2 f Z Z aB λa f=>Ab f Z λa f=>Ai f Z Z Cw λa f=>Aa ?_
   rcases Ag aq with⟨aD,aq⟩|⟨aD,aq⟩
   ·refine Am f Z aD (Aj (Ab f Z λa f=>Ab f Z λa f=>Ab f Z λa f=>Bd aq λaE aF aq=>AX T35 f Z Z Z h0 aF λaG aH a aI aJ f=> ?_))
    subst aJ
    refine Aw m Pl2 f Z Z aI λa f=>AO (R:=R0) (xs:=([aE]:LI)) (RI.one _) m T35 f Z Z Z (by decide) (All2.cons Z (All2.nil _)) λaK aL w a m aM f=>Bd aq λaN aO aq=>A6 (RI.one _) 1 m av Z T35 Z (by decide) f Z Z Z (Ow.src (j:=0) aM m Z) aO λaP aQ w a m aR f=>Ac f Z λa f=>Aa (Aj (Ab f Z λa f=>Ai f Z Z AB λa f=>Ac f Z λa f=>Aa (have m:=m.fr 1;have m:=m.eraseAt 1;?_)))
    obtain rfl:=sj aq
    exact⟨_,Z,_,_,Z,_,aQ,aP,au,f.k Z,m,aR⟩
   ·refine Ak f Z aD (An (Aj (Ab f Z λa f=>Ai f Z Z AB λa f=>Ac f Z λa f=>Aa ?_)))
    obtain rfl:=sj aq
    exact⟨_,Z,_,_,Z,_,an,ao,au,f.k Z,m,av⟩
  ·refine Ak f Z aw (AE Z ?_)
   obtain rfl:=sj aq
   obtain rfl:=ar _ rfl
   exact⟨_,Z,_,an,ao,au,f.k Z,m,av⟩
 ·rintro a w ⟨af,rfl,ag,ah,ai,aS,f,m,aT⟩
  refine Ae (Ab f Z λa f=>Ac f Z λa f=>Aa (Ar ?_))
  obtain rfl:=sj hd
  exact⟨[ah],f.g Z,f.d,_,[ai],aS,m,_,_,Z,Z,aT⟩
theorem Wk.p {aa:Value}{ab:Itm}{ac:Value}{ad:Itm}{ae:Value}{af:Itm}{ag:Value}{ah:Itm}{v3 v4:Value}{ai aj:LI}{ak al:LL}{x1 x2:Int}{x3 x4:LI}(m:Mem W G w (ab::ad::af::ah::H))(am:Ow R0 2 G ab aa ai)(an:Ow R0 2 G ad ac aj)(ao:Ow R1 35 G af ae ak)(ap:Ow R1 35 G ah ag al)(h3:R1 G v3 x3)(h4:R1 G v4 x4){y:(LI)×(LI)×(LL)×(LL)}(hd:D.p ai aj ak al x1 x2 x3 x4=some y):
  Calls prog 39 #[(.agg #[aa,ac,ae,ag]),iv x1,iv x2,v3,v4] w (Res W G H (λG' Ho v=>∃r0:Value,∃i0:Itm,∃r2:Value,∃i2:Itm,∃r4:Value,∃i4:Itm,∃r6:Value,∃i6:Itm,Ho=[i0,i2,i4,i6]∧v=(.agg #[r0,r2,r4,r6])∧Ow R0 2 G' i0 r0 y.1∧Ow R0 2 G' i2 r2 y.2.1∧Ow R1 35 G' i4 r4 y.2.2.1∧Ow R1 35 G' i6 r6 y.2.2.2)):=by
 refine Au (args:=[(.agg #[aa,ac,ae,ag]),iv x1,iv x2,v3,v4]) (N:=36) [.cell 10 38] func39 Z Z (lb Z) Z λa f=> ?_
 unfold D.p at hd
 refine Ae (A3 (cs:=[aa,ac,ae,ag]) m f Z Z Z λaq w a m f=>Bp (cs:=[sn,sn,sn,sn]) zeroValue38 m f Z Z λar w a m f=>AF (AQ underlying38 Z sizeOf35 f Z λa f=>Ao 1 0 m AY f Z Z Z Z λa f=>Ab f Z λa f=>AO (R:=R0) (xs:=([x1]:LI)) (RI.one _) m T35 f Z Z Z (by decide) (All2.cons Z (All2.nil _)) λau av w a m aw f=>Bd hd λax ay hd=>A6 (RI.one _) 3 m am Z T35 Z (by decide) f Z Z Z (Ow.src (j:=0) aw m Z) ay λaz aA w a m aB f=>AQ underlying38 Z sizeOf35 f Z λa f=>Ax 2 0 (ds:=[aA]) m sizeOf35 f Z Z (Ow.cells 3 m aB Z) (Af (Ow.one1 3 m aB Z) AG) Z (lb Z) Z λw m=>AF (AQ underlying38 Z sizeOf35 f Z λa f=>Ao 2 1 m AY f Z Z Z Z λa f=>Ab f Z λa f=>AO (R:=R0) (xs:=([x2]:LI)) (RI.one _) m T35 f Z Z Z (by decide) (All2.cons Z (All2.nil _)) λaC aD w a m aE f=>Bd hd λaF aG hd=> ?_)))
 refine A6 (RI.one _) 5 m an Z T35 Z (by decide) f Z Z Z (Ow.src (j:=0) aE m Z) aG λaH aI w a m aJ f=>AQ underlying38 Z sizeOf35 f Z λa f=>Ax 3 1 (ds:=[aI]) m sizeOf35 f Z Z (Ow.cells 5 m aJ Z) (Af (Ow.one1 5 m aJ Z) AG) Z (lb Z) Z λw m=>AF (AQ underlying38 Z sizeOf27 f Z λa f=>Ao 3 2 m AW f Z Z Z Z λa f=>Ab f Z λa f=>AO (R:=R1) (xs:=([x3]:LL)) (RSl.one _) m T27 f Z Z Z (by decide) (All2.cons h3 (All2.nil _)) λaK aL w a m aM f=>Bd hd λaN aO hd=>A6 (RSl.one _) 7 m ao Z T27 Z (by decide) f Z Z Z (Ow.src (j:=0) aM m Z) aO λaP aQ w a m aR f=>AQ underlying38 Z sizeOf27 f Z λa f=>Ax 4 2 (ds:=[aQ]) m sizeOf27 f Z Z (Ow.cells 7 m aR Z) (Af (Ow.one1 7 m aR Z) AG) Z (lb Z) Z λw m=>AF (AQ underlying38 Z sizeOf27 f Z λa f=>Ao 4 3 m AW f Z Z Z Z λa f=>Ab f Z λa f=> ?_))
 refine AO (R:=R1) (xs:=([x4]:LL)) (RSl.one _) m T27 f Z Z Z (by decide) (All2.cons h4 (All2.nil _)) λaS aT w a m aU f=>Bd hd λaV aW hd=>A6 (RSl.one _) 9 m ap Z T27 Z (by decide) f Z Z Z (Ow.src (j:=0) aU m Z) aW λaX aY w a m aZ f=>AQ underlying38 Z sizeOf27 f Z λa f=>Ax 5 3 (ds:=[aY]) m sizeOf27 f Z Z (Ow.cells 9 m aZ Z) (Af (Ow.one1 9 m aZ Z) AG) Z (lb Z) Z λw m=>AF (Ay 5 0 (ds:=[aA,aI,aQ,aY]) m Cd f Z Z Z Z Z λa f=>Ax 4 0 (ds:=[aA,aI,aQ,aY]) m sizeOf38 f Z Z Z (Af (Ow.one1 6 m aB Z) (Af (Ow.one1 7 m aJ Z) (Af (Ow.one1 8 m aR Z) (Af (Ow.one1 9 m aZ Z) AG)))) Z (lb Z) Z λw m=>Aa (Ar (have a0:=Cs (P:=prog) 4 m Cd f (s:=10) rfl rfl rfl;have m:=m.fr 9;have m:=m.fr 9;have m:=m.fr 9;have m:Mem W G w (az::aH::aP::aX::aS::aK::aC::au::ib ar 38 [aA,aI,aQ,aY]::ib aq 38 [aA,aI,aQ,aY]::H):=m.fr 9;?_)))
 refine have m:=m.eraseAt 9;have m:=m.eraseAt 8;have m:=m.eraseAt 7;have m:Mem W G w (az::aH::aP::aX::aS::aK::H):=m.eraseAt 6;have m:=m.eraseAt 5;have m:=m.eraseAt 4;?_
 obtain rfl:=sj hd
 exact⟨[(.agg #[aA,aI,aQ,aY])],⟨a0,trivial⟩,f.d,_,[az,aH,aP,aX],gr,m,_,_,_,_,_,_,_,_,Z,Z,aB,aJ,aR,aZ⟩
theorem Wk.a0 {aa:Value}{ab:Itm}{ac:Value}{ad:Itm}{ae:Value}{af:Itm}{ag:Value}{ah:Itm}{v1 v2:Value}{ai aj:LI}{ak al:LL}{x1 x2:LI}(m:Mem W G w (ab::ad::af::ah::H))(am:Ow R0 2 G ab aa ai)(an:Ow R0 2 G ad ac aj)(ao:Ow R1 35 G af ae ak)(ap:Ow R1 35 G ah ag al)(h1:R1 G v1 x1)(h2:R1 G v2 x2){y:(LI)×(LI)×(LL)×(LL)}(hd:D.a0 ai aj ak al x1 x2=some y):
  Calls prog 38 #[(.agg #[aa,ac,ae,ag]),v1,v2] w (Res W G H (λG' Ho v=>∃r0:Value,∃i0:Itm,∃r2:Value,∃i2:Itm,∃r4:Value,∃i4:Itm,∃r6:Value,∃i6:Itm,Ho=[i0,i2,i4,i6]∧v=(.agg #[r0,r2,r4,r6])∧Ow R0 2 G' i0 r0 y.1∧Ow R0 2 G' i2 r2 y.2.1∧Ow R1 35 G' i4 r4 y.2.2.1∧Ow R1 35 G' i6 r6 y.2.2.2)):=by
 refine Au (args:=[(.agg #[aa,ac,ae,ag]),v1,v2]) (N:=74) [.cell 6 38] func38 Z Z (lb Z) Z λa f=> ?_
 unfold D.a0 at hd
 refine Ae (A3 (cs:=[aa,ac,ae,ag]) m f Z Z Z λaq w a m f=>Bp (cs:=[sn,sn,sn,sn]) zeroValue38 m f Z Z λar w a m f=>AF (Ab f Z λa f=>Ac f Z λa f=>Aa (Ah (Ae (Ac f Z λa f=>Aa (Bd hd λau av hd=> ?_))))))
 refine AL (λa w=>∃aw:LI,∃ax:LI,∃ay:LI,∃az:LL,∃aA:LL,(aw,ax,ay,az,aA)=au∧∃(aB:GH) (aC:Value) (aD:Value) (aE:Itm) (aF:Value) (aG:Itm) (aH:Value) (aI:Itm) (aJ:Value) (aK:Itm),GLe G aB∧Fr a 74 [(1,v1),(2,v2),(3,pb aq),(6,pb ar),(7,aC)]∧Mem W aB w (ib aq 38 [aD,aF,aH,aJ]::ib ar 38 [sn,sn,sn,sn]::aE::aG::aI::aK::H)∧R1 aB aC aw∧Ow R0 2 aB aE aD ax∧Ow R0 2 aB aG aF ay∧Ow R1 35 aB aI aH az∧Ow R1 35 aB aK aJ aA) ?_ ?_
 ·refine Al (have m:=m.fr 1;AM (λaL a w=>∃aM:LI,∃aN:Int,∃aO:LI,∃aP:LI,∃aQ:LL,∃aR:LL,(aM,aN,aO,aP,aQ,aR)=aL∧∃(aS:GH) (aT:Value) (aU:Value) (aV:Itm) (aW:Value) (aX:Itm) (aY:Value) (aZ:Itm) (a0:Value) (a1:Itm),GLe G aS∧Fr a 74 [(1,v1),(2,v2),(3,pb aq),(6,pb ar),(7,aT),(8,iv aN)]∧Mem W aS w (ib aq 38 [aU,aW,aY,a0]::ib ar 38 [sn,sn,sn,sn]::aV::aX::aZ::a1::H)∧R1 aS aT aM∧Ow R0 2 aS aV aU aO∧Ow R0 2 aS aX aW aP∧Ow R1 35 aS aZ aY aQ∧Ow R1 35 aS a1 a0 aR) av ⟨_,_,_,_,_,_,Z,_,v1,aa,ab,ac,ad,ae,af,ag,ah,gr,f.k Z,m,h1,am,an,ao,ap⟩ ?_)
  clear av f m
  rintro aL a2 a3 a4 a w ⟨aM,aN,aO,aP,aQ,aR,rfl,aS,aT,aU,aV,aW,aX,aY,aZ,a0,a1,a5,f,m,a6,a7,a8,a9,ba⟩
  refine have h1:=rd1 a5 h1;have h2:=rd1 a5 h2;Ah (Ae (Ab f Z λa f=>Ab f Z λa f=>AN underlying35 f Z Z h1 λa f=>Ai f Z Z AP λa f=>Aa ?_))
  rcases Ag a3 with⟨bb,a3⟩|⟨bb,a3⟩
  ·refine Am f Z bb (An (Ah (Al (Ae (Ab f Z λa f=>Ab f Z λa f=>Ab f Z λa f=>Bd a3 λbc bd a3=>AX T35 f Z Z Z h1 bd λbe bf a bg bh f=> ?_)))))
   subst bh
   refine Aw m Pl2 f Z Z bg λa f=>Bd a3 λbi bj a3=>A2 f Z call27 (Wk.f m h2 bj) λbk w bl m a f=>have h1:=rd1 bl h1;have a6:=rd1 bl a6;have a7:=od1 bl a7;have a8:=od1 bl a8;have a9:=od3 bl a9;have ba:=od3 bl ba;l_o f (Bj (f.e Z)) λa f=>Aa ?_
   rcases Ag a3 with⟨bm,a3⟩|⟨bm,a3⟩
   ·refine Am f Z bm (Ae (Ab f Z λa f=>Ab f Z λa f=>Ab f Z λa f=>Bd a3 λbn bo a3=>AX T35 f Z Z Z h1 bo λbp bq a br bs f=> ?_))
    subst bs
    refine Aw m Pl2 f Z Z br λa f=>Bd a3 λbt bu a3=>BK f Z call103 (Wk.X0 m a6 bu) λbv bw bx w bz m bA a f=>have h1:=rd1 bz h1;have a7:=od1 bz a7;have a8:=od1 bz a8;have a9:=od3 bz a9;have ba:=od3 bz ba;Ac f Z λa f=>Aa (Bg 11 AV (by kernel_rfl) m (Bc (i:=0) (ds:=[aU,aW,aY,a0]) 11 1 Cd Z Z Z Z (by kernel_rfl) Z f Z Z Z λa f=>As 1 11 Z f Z λa f=>As 2 11 Z f Z λa f=>Bd a3 λbB bC a3=>Bb 3 11 T35 h1 bC Z f Z Z λbD bE a bF bG f=> ?_))
    subst bG
    refine Ba 4 11 Pl2 bF Z f Z λa f=>As 5 11 Z f Z λa f=>Br 6 11 underlying38 Z sizeOf35 Z f Z λa f=>Bo 7 11 1 AY Z Z Z f Z λa f=>Er (i:=8) 11 3 m a7 Z underlying35 Z (by kernel_rfl) Z f Z Z Z λa f=>q_p 9 11 Z f (λ_=>BB (f.e Z) (f.e Z) CA) λa f=>Bw 10 Z λbH w bI m bJ bJ=>have bA:=od1 bI bA;have a7:=od1 bI a7;have a8:=od1 bI a8;have a9:=od3 bI a9;have ba:=od3 bI ba;AO (R:=R0) (xs:=([(i64.wrap ((aO.length:Int)-1))]:LI)) (RI.one _) m T35 f Z Z Z (by decide) (All2.cons Z (All2.nil _)) λbK bL w a m bM f=>Aa (bJ bH [bK] _ _ gr m (A4 λbN w bO m=>have bM:=od1 bO bM;have bA:=od1 bO bA;have a7:=od1 bO a7;have a8:=od1 bO a8;have a9:=od3 bO a9;have ba:=od3 bO ba;have m:=m.fr 1;?_))
    obtain⟨bP,bQ,m,bR⟩:=Ow.stamp (RI.mono _) bA m
    refine have bM:=od1 bQ bM;have a7:=od1 bQ a7;have a8:=od1 bQ a8;have a9:=od3 bQ a9;have ba:=od3 bQ ba;?_
    obtain⟨bS,bT,m,bU⟩:=Ow.stamp (RI.mono _) bM m
    refine have bR:=rd1 bT bR;have a7:=od1 bT a7;have a8:=od1 bT a8;have a9:=od3 bT a9;have ba:=od3 bT ba;have m:=m.fr 5;have m:=m.fr 5;have m:=m.fr 5;have m:=m.fr 5;Bd a3 λbV bW a3=>A9 f Z call39 (Wk.p m a7 a8 a9 ba bR bU bW) λbX bY bZ w b0 m b1 a f=> ?_
    obtain⟨b2,b3,b4,b5,b6,b7,b8,b9,rfl,rfl,ca,cb,cc,cd⟩:=b1
    refine have bR:=rd1 b0 bR;Ax 4 0 (ds:=[b2,b4,b6,b8]) m sizeOf38 f Z Z Z (Af (Ow.one1 0 m ca Z) (Af (Ow.one1 1 m cb Z) (Af (Ow.one1 2 m cc Z) (Af (Ow.one1 3 m cd Z) AG)))) Z (lb Z) Z λw m=>Aa (Aj (Ab f Z λa f=>Ai f Z Z AB λa f=>Ac f Z λa f=>Aa (have m:=m.fr 5;have m:=m.fr 5;?_)))
    obtain rfl:=sj a3
    exact⟨_,Z,_,_,_,_,_,_,Z,_,bv,b2,b3,b4,b5,b6,b7,b8,b9,(gt a5 (gt bl (gt bz (gt bI (gt bO (gt bQ (gt bT b0))))))),f.k Z,m,bR,ca,cb,cc,cd⟩
   ·refine Ak f Z bm (An (Aj (Ab f Z λa f=>Ai f Z Z AB λa f=>Ac f Z λa f=>Aa ?_)))
    obtain rfl:=sj a3
    exact⟨_,Z,_,_,_,_,_,_,Z,_,aT,aU,aV,aW,aX,aY,aZ,a0,a1,(gt a5 bl),f.k Z,m,a6,a7,a8,a9,ba⟩
  ·refine Ak f Z bb (AE Z ?_)
   obtain rfl:=sj a3
   obtain rfl:=a4 _ rfl
   exact⟨_,_,_,_,_,Z,_,aT,aU,aV,aW,aX,aY,aZ,a0,a1,a5,f.k Z,m,a6,a7,a8,a9,ba⟩
 ·rintro a w ⟨aw,ax,ay,az,aA,rfl,aB,aC,aD,aE,aF,aG,aH,aI,aJ,aK,ce,f,m,cf,cg,ch,ci,cj⟩
  refine have h1:=rd1 ce h1;have h2:=rd1 ce h2;Ah (Ae (Ac f Z λa f=>Aa (Bd hd λck cl hd=> ?_)))
  refine AL (λa w=>∃cm:LI,∃cn:LI,∃co:LL,∃cp:LL,(cm,cn,co,cp)=ck∧∃(cq:GH) (cr:Value) (ct:Itm) (cu:Value) (cv:Itm) (cw:Value) (cx:Itm) (cy:Value) (cz:Itm),GLe aB cq∧Fr a 74 [(3,pb aq),(6,pb ar)]∧Mem W cq w (ib aq 38 [cr,cu,cw,cy]::ib ar 38 [sn,sn,sn,sn]::ct::cv::cx::cz::H)∧Ow R0 2 cq ct cr cm∧Ow R0 2 cq cv cu cn∧Ow R1 35 cq cx cw co∧Ow R1 35 cq cz cy cp) ?_ ?_
  ·refine Al (AM (λcA a w=>∃cB:LI,∃cC:Int,∃cD:LI,∃cE:LI,∃cF:LL,∃cG:LL,(cB,cC,cD,cE,cF,cG)=cA∧∃(cH:GH) (cI:Value) (cJ:Value) (cK:Itm) (cL:Value) (cM:Itm) (cN:Value) (cO:Itm) (cP:Value) (cQ:Itm),GLe aB cH∧Fr a 74 [(1,v1),(2,v2),(3,pb aq),(6,pb ar),(7,cI),(9,iv cC)]∧Mem W cH w (ib aq 38 [cJ,cL,cN,cP]::ib ar 38 [sn,sn,sn,sn]::cK::cM::cO::cQ::H)∧R1 cH cI cB∧Ow R0 2 cH cK cJ cD∧Ow R0 2 cH cM cL cE∧Ow R1 35 cH cO cN cF∧Ow R1 35 cH cQ cP cG) cl ⟨_,_,_,_,_,_,Z,_,aC,aD,aE,aF,aG,aH,aI,aJ,aK,gr,f.k Z,m,cf,cg,ch,ci,cj⟩ ?_)
   clear cl f m
   rintro cA cR cS cT a w ⟨cB,cC,cD,cE,cF,cG,rfl,cH,cI,cJ,cK,cL,cM,cN,cO,cP,cQ,cU,f,m,cV,cW,cX,cY,cZ⟩
   refine have h1:=rd1 cU h1;have h2:=rd1 cU h2;Ah (Ae (Ab f Z λa f=>Ab f Z λa f=>AN underlying35 f Z Z h2 λa f=>Ai f Z Z AP λa f=>Aa ?_))
   rcases Ag cS with⟨c0,cS⟩|⟨c0,cS⟩
   ·refine Am f Z c0 (An (Ah (Al (Ae (Ab f Z λa f=>Ab f Z λa f=>Ab f Z λa f=>Bd cS λc1 c2 cS=>AX T35 f Z Z Z h2 c2 λc3 c4 a c5 c6 f=> ?_)))))
    subst c6
    refine Aw m Pl2 f Z Z c5 λa f=>Bd cS λc7 c8 cS=>A2 f Z call27 (Wk.f m h1 c8) λc9 w da m a f=>have h2:=rd1 da h2;have cV:=rd1 da cV;have cW:=od1 da cW;have cX:=od1 da cX;have cY:=od3 da cY;have cZ:=od3 da cZ;l_o f (Bj (f.e Z)) λa f=>Aa ?_
    rcases Ag cS with⟨db,cS⟩|⟨db,cS⟩
    ·refine Am f Z db (Ae (Ab f Z λa f=>Ab f Z λa f=>Ab f Z λa f=>Bd cS λdc dd cS=>AX T35 f Z Z Z h2 dd λde df a dg dh f=> ?_))
     subst dh
     refine Aw m Pl2 f Z Z dg λa f=>Bd cS λdi dj cS=>A9 f Z call25 (Wk.q m cV dj) λdk dl dm w dn m dp a f=> ?_
     obtain⟨dq,rfl,rfl,dr⟩:=dp
     refine have h2:=rd1 dn h2;have cW:=od1 dn cW;have cX:=od1 dn cX;have cY:=od3 dn cY;have cZ:=od3 dn cZ;Ac f Z λa f=>Aa (Bg 11 AV (by kernel_rfl) m (Bc (i:=0) (ds:=[cJ,cL,cN,cP]) 11 0 Cd Z Z Z Z (by kernel_rfl) Z f Z Z Z λa f=>As 1 11 Z f Z λa f=>As 2 11 Z f Z λa f=>Bd cS λdt du cS=>Bb 3 11 T35 h2 du Z f Z Z λdv dw a dx dy f=> ?_))
     subst dy
     refine Ba 4 11 Pl2 dx Z f Z λa f=>As 5 11 Z f Z λa f=>Br 6 11 underlying38 Z sizeOf35 Z f Z λa f=>Bo 7 11 0 AY Z Z Z f Z λa f=>Er (i:=8) 11 2 m cW Z underlying35 Z (by kernel_rfl) Z f Z Z Z λa f=>q_p 9 11 Z f (λ_=>BB (f.e Z) (f.e Z) CA) λa f=>Bw 10 Z λdz w dA m dB dB=>have dr:=rd1 dA dr;have cW:=od1 dA cW;have cX:=od1 dA cX;have cY:=od3 dA cY;have cZ:=od3 dA cZ;AO (R:=R0) (xs:=([(i64.wrap ((cD.length:Int)-1))]:LI)) (RI.one _) m T35 f Z Z Z (by decide) (All2.cons Z (All2.nil _)) λdC dD w a m dE f=>Aa (dB dz [dC] _ _ gr m (A4 λdF w dG m=>have dr:=rd1 dG dr;have dE:=od1 dG dE;have cW:=od1 dG cW;have cX:=od1 dG cX;have cY:=od3 dG cY;have cZ:=od3 dG cZ;?_))
     obtain⟨dH,dI,m,dJ⟩:=Ow.stamp (RI.mono _) dE m
     refine have dr:=rd1 dI dr;have cW:=od1 dI cW;have cX:=od1 dI cX;have cY:=od3 dI cY;have cZ:=od3 dI cZ;have m:=m.fr 5;have m:=m.fr 5;have m:=m.fr 5;have m:=m.fr 5;Bd cS λdK dL cS=>A9 f Z call39 (Wk.p m cW cX cY cZ dr dJ dL) λdM dN dO w dP m dQ a f=> ?_
     obtain⟨dR,dS,dT,dU,dV,dW,dX,dY,rfl,rfl,dZ,d0,d1,d2⟩:=dQ
     refine have dr:=rd1 dP dr;Ax 4 0 (ds:=[dR,dT,dV,dX]) m sizeOf38 f Z Z Z (Af (Ow.one1 0 m dZ Z) (Af (Ow.one1 1 m d0 Z) (Af (Ow.one1 2 m d1 Z) (Af (Ow.one1 3 m d2 Z) AG)))) Z (lb Z) Z λw m=>Aa (Aj (Ab f Z λa f=>Ai f Z Z AB λa f=>Ac f Z λa f=>Aa (have m:=m.fr 5;have m:=m.fr 5;?_)))
     obtain rfl:=sj cS
     exact⟨_,Z,_,_,_,_,_,_,Z,_,dq,dR,dS,dT,dU,dV,dW,dX,dY,(gt cU (gt da (gt dn (gt dA (gt dG (gt dI dP)))))),f.k Z,m,dr,dZ,d0,d1,d2⟩
    ·refine Ak f Z db (An (Aj (Ab f Z λa f=>Ai f Z Z AB λa f=>Ac f Z λa f=>Aa ?_)))
     obtain rfl:=sj cS
     exact⟨_,Z,_,_,_,_,_,_,Z,_,cI,cJ,cK,cL,cM,cN,cO,cP,cQ,(gt cU da),f.k Z,m,cV,cW,cX,cY,cZ⟩
   ·refine Ak f Z c0 (AE Z ?_)
    obtain rfl:=sj cS
    obtain rfl:=cT _ rfl
    exact⟨_,_,_,_,Z,_,cJ,cK,cL,cM,cN,cO,cP,cQ,cU,f.k Z,m,cW,cX,cY,cZ⟩
  ·rintro a w ⟨cm,cn,co,cp,rfl,cq,cr,ct,cu,cv,cw,cx,cy,cz,d3,f,m,d4,d5,d6,d7⟩
   refine Ae (Ay 0 0 (ds:=[cr,cu,cw,cy]) m Cd f Z Z Z Z Z λa f=>Ax 1 0 (ds:=[cr,cu,cw,cy]) m sizeOf38 f Z Z Z (Af (Ow.one1 2 m d4 Z) (Af (Ow.one1 3 m d5 Z) (Af (Ow.one1 4 m d6 Z) (Af (Ow.one1 5 m d7 Z) AG)))) Z (lb Z) Z λw m=>Aa (Ar (have d8:=Cs (P:=prog) 1 m Cd f (s:=6) rfl rfl rfl;have m:=m.fr 5;have m:=m.fr 5;have m:=m.fr 5;have m:Mem W cq w (ct::cv::cx::cz::ib aq 38 [cr,cu,cw,cy]::ib ar 38 [cr,cu,cw,cy]::H):=m.fr 5;have m:=m.eraseAt 5;have m:=m.eraseAt 4;?_)))
   obtain rfl:=sj hd
   exact⟨[(.agg #[cr,cu,cw,cy])],⟨d8,trivial⟩,f.d,_,[ct,cv,cx,cz],(gt ce d3),m,_,_,_,_,_,_,_,_,Z,Z,d4,d5,d6,d7⟩
theorem Wk.g0 {W:World}(n:Nat):∀{w:World} {G:GH} {H:List Itm} {aa ab ac:Value} {ad:Itm} {ae:Value} {af:Itm} {ag:Value} {ah:Itm} {ai:Value} {aj:Itm} {ak al:LL} {am an:LI} {ao ap:LL} {x2 x3:Int} (m:Mem W G w (ad::af::ah::aj::H)) (aq:R2 G aa ak) (ar:R2 G ab al) (au:Ow R0 2 G ad ac am) (av:Ow R0 2 G af ae an) (aw:Ow R1 35 G ah ag ao) (ax:Ow R1 35 G aj ai ap) {y:(LI)×(LI)×(LL)×(LL)} (hd:D.g0 n ak al am an ao ap x2 x3=some y),
  Calls prog 37 #[(.agg #[aa,ab]),(.agg #[ac,ae,ag,ai]),iv x2,iv x3] w (Res W G H (λG' Ho v=>∃r0:Value,∃i0:Itm,∃r2:Value,∃i2:Itm,∃r4:Value,∃i4:Itm,∃r6:Value,∃i6:Itm,Ho=[i0,i2,i4,i6]∧v=(.agg #[r0,r2,r4,r6])∧Ow R0 2 G' i0 r0 y.1∧Ow R0 2 G' i2 r2 y.2.1∧Ow R1 35 G' i4 r4 y.2.2.1∧Ow R1 35 G' i6 r6 y.2.2.2)):=by
 induction n with
 |zero=>intros;rename_i hd;simp[D.g0] at hd
 |succ fuel ih=>
  intro w G H aa ab ac ad ae af ag ah ai aj ak al am an ao ap x2 x3 m aq ar au av aw ax y hd
  refine Au (args:=[(.agg #[aa,ab]),(.agg #[ac,ae,ag,ai]),iv x2,iv x3]) (N:=80) [.cell 8 38] func37 Z Z (lb Z) Z λa f=> ?_
  unfold D.g0 at hd
  refine Ae (A3 (cs:=[aa,ab]) m f Z Z Z λay w a m f=>A3 (cs:=[ac,ae,ag,ai]) m f Z Z Z λaz w a m f=>Bp (cs:=[sn,sn,sn,sn]) zeroValue38 m f Z Z λaA w a m f=>AF (Ac f Z λa f=>Aa (Ah (Ae (Ac f Z λa f=>Aa (Bd hd λaB aC hd=> ?_))))))
  refine AL (λa w=>∃aD:Int,∃aE:LI,∃aF:LI,∃aG:LL,∃aH:LL,(aD,aE,aF,aG,aH)=aB∧∃(aI:GH) (aJ:Value) (aK:Itm) (aL:Value) (aM:Itm) (aN:Value) (aO:Itm) (aP:Value) (aQ:Itm),GLe G aI∧Fr a 80 [(2,iv x2),(4,pb ay),(5,pb az),(8,pb aA),(9,iv aD)]∧Mem W aI w (ib ay 32 [aa,ab]::ib az 38 [aJ,aL,aN,aP]::ib aA 38 [sn,sn,sn,sn]::aK::aM::aO::aQ::H)∧Ow R0 2 aI aK aJ aE∧Ow R0 2 aI aM aL aF∧Ow R1 35 aI aO aN aG∧Ow R1 35 aI aQ aP aH) ?_ ?_
  ·refine Al (have m:=m.fr 1;have m:=m.fr 2;AM (λaR a w=>∃aS:Int,∃aT:Int,∃aU:LI,∃aV:LI,∃aW:LL,∃aX:LL,(aS,aT,aU,aV,aW,aX)=aR∧∃(aY:GH) (aZ:Value) (a0:Itm) (a1:Value) (a2:Itm) (a3:Value) (a4:Itm) (a5:Value) (a6:Itm),GLe G aY∧Fr a 80 [(2,iv x2),(3,iv x3),(4,pb ay),(5,pb az),(8,pb aA),(9,iv aS),(10,iv aT)]∧Mem W aY w (ib ay 32 [aa,ab]::ib az 38 [aZ,a1,a3,a5]::ib aA 38 [sn,sn,sn,sn]::a0::a2::a4::a6::H)∧Ow R0 2 aY a0 aZ aU∧Ow R0 2 aY a2 a1 aV∧Ow R1 35 aY a4 a3 aW∧Ow R1 35 aY a6 a5 aX) aC ⟨_,_,_,_,_,_,Z,_,ac,ad,ae,af,ag,ah,ai,aj,gr,f.k Z,m,au,av,aw,ax⟩ ?_)
   clear aC f m
   rintro aR a7 a8 a9 a w ⟨aS,aT,aU,aV,aW,aX,rfl,aY,aZ,a0,a1,a2,a3,a4,a5,a6,ba,f,m,bb,bc,bd,be⟩
   refine have aq:=rd2 ba aq;have ar:=rd2 ba ar;Ah (Ae (Ab f Z λa f=>AQ underlying32 Z sizeOf27 f Z λa f=>Ao 0 0 m AW f Z Z Z Z λa f=>AN underlying27 f Z Z aq λa f=>Ai f Z Z AP λa f=>Aa ?_))
   rcases Ag a8 with⟨bf,a8⟩|⟨bf,a8⟩
   ·refine Am f Z bf (An (Ah (Al (Ah (Ae (Ab f Z λa f=>Ab f Z λa f=>Ai f Z Z Bf λa f=>Ab f Z λa f=>Bd a8 λbg bh a8=> ?_))))))
    refine Bk 6 (λa w=>∃bi,GLe aY bi∧Mem W bi w (ib ay 32 [aa,ab]::ib az 38 [aZ,a1,a3,a5]::ib aA 38 [sn,sn,sn,sn]::a0::a2::a4::a6::H)∧Fr a 80 [(2,iv x2),(3,iv x3),(4,pb ay),(5,pb az),(8,pb aA),(9,iv aS),(10,iv aT),(15,(.bool (decide (aT<(ak.length:Int))))),(18,iv aT),(19,iv x3),(20,(.bool (aT==x3))),(21,(.bool (aT==x3))),(27,(.bool bg))]) ?_ ?_
    ·rcases Ag bh with⟨bj,bh⟩|⟨bj,bh⟩
     ·refine Aq f bj λa f=>Aq f bj λa f=>Aq f bj λa f=>Aq f bj λa f=>Aq f bj λa f=>l_o f (AK (f.e Z) bj (f.e Z)) λa f=> ?_
      obtain rfl:=sj bh
      exact⟨_,gr,m,f.k Z⟩
     ·refine Ap f bj (Ay 0 0 (ds:=[aa,ab]) m DH f Z Z Z Z Z λa f=>Ap f bj (Ab f Z λa f=>Ap f bj (Ab f Z λa f=>Ap f bj (Bd bh λbk bl bh=>A2 f Z call102 (Wk.J0 m aq ar bl) λbm w bn m a f=>Ap f bj (l_o f (Bj (f.e Z)) λa f=>l_o f (AI (f.e Z) bj (f.e Z)) λa f=> ?_)))))
      obtain rfl:=sj bh
      exact⟨_,bn,m,f.k Z⟩
    ·rintro a w ⟨bi,bo,m,f⟩
     refine have aq:=rd2 bo aq;have ar:=rd2 bo ar;have bb:=od1 bo bb;have bc:=od1 bo bc;have bd:=od3 bo bd;have be:=od3 bo be;Aa ?_
     rcases Ag a8 with⟨bp,a8⟩|⟨bp,a8⟩
     ·refine Am f Z bp (AE Z (Aj (Ab f Z λa f=>Ai f Z Z AB λa f=>Ac f Z λa f=>Aa ?_)))
      obtain rfl:=sj a8
      exact⟨_,Z,_,_,_,_,_,_,Z,_,aZ,a0,a1,a2,a3,a4,a5,a6,(gt ba bo),f.k Z,m,bb,bc,bd,be⟩
     ·refine Ak f Z bp (An (Ae (Ay 0 0 (ds:=[aa,ab]) m DH f Z Z Z Z Z λa f=>Ay 1 0 (ds:=[aZ,a1,a3,a5]) m Cd f Z Z Z Z Z λa f=>Ab f Z λa f=>Ab f Z λa f=>have m:=m.fr 6;have m:=m.fr 6;have m:=m.fr 6;have m:=m.fr 6;Bd a8 λbq br a8=>A9 f Z call37 (ih m aq ar bb bc bd be br) λbs bt bu w bv m bw a f=> ?_)))
      obtain⟨bx,bz,bA,bB,bC,bD,bE,bF,rfl,rfl,bG,bH,bI,bJ⟩:=bw
      refine have aq:=rd2 bv aq;Ax 5 0 (ds:=[bx,bA,bC,bE]) m sizeOf38 f Z Z Z (Af (Ow.one1 0 m bG Z) (Af (Ow.one1 1 m bH Z) (Af (Ow.one1 2 m bI Z) (Af (Ow.one1 3 m bJ Z) AG)))) Z (lb Z) Z λw m=>Aa (Ah (Bg 11 AV (by kernel_rfl) m (Bc (i:=0) (ds:=[bx,bA,bC,bE]) 11 5 Cd Z Z Z Z (by kernel_rfl) Z f Z Z Z λa f=>Br 1 11 underlying32 Z sizeOf27 Z f Z λa f=>Bo 2 11 4 AW Z Z Z f Z λa f=>As 3 11 Z f Z λa f=>Bd a8 λbK bL a8=>Bb 4 11 T27 aq bL Z f Z Z λbM bN a bO bP f=>Ba 5 11 AY bO Z f Z λa f=>Br 6 11 underlying32 Z sizeOf27 Z f Z λa f=>Bo 7 11 4 AW Z Z Z f Z λa f=>As 8 11 Z f Z λa f=>Bd a8 λbQ bR a8=>Bb 9 11 T27 aq bR Z f Z Z λbS bT a bU bV f=>Ba 10 11 AY bU Z f Z λa f=>A4 λbW w bX m=>have aq:=rd2 bX aq;have bP:=rd1 bX bP;have bV:=rd1 bX bV;have bG:=od1 bX bG;have bH:=od1 bX bH;have bI:=od3 bX bI;?_)))
      refine have bJ:=od3 bX bJ;Bd a8 λbY bZ a8=>A9 f Z call38 (Wk.a0 m bG bH bI bJ bP bV bZ) λb0 b1 b2 w b3 m b4 a f=> ?_
      obtain⟨b5,b6,b7,b8,b9,ca,cb,cc,rfl,rfl,cd,ce,cf,cg⟩:=b4
      refine have aq:=rd2 b3 aq;Ax 5 0 (ds:=[b5,b7,b9,cb]) m sizeOf38 f Z Z Z (Af (Ow.one1 0 m cd Z) (Af (Ow.one1 1 m ce Z) (Af (Ow.one1 2 m cf Z) (Af (Ow.one1 3 m cg Z) AG)))) Z (lb Z) Z λw m=>Aa (Ah (Ae (Ab f Z λa f=>Ai f Z Z EA λa f=>Aa ?_)))
      rcases Ag a8 with⟨ch,a8⟩|⟨ch,a8⟩
      ·refine Am f Z ch (Bd a8 λci cj a8=> ?_)
       refine AL (λa w=>∃ck:LI,∃cl:LI,∃cm:LL,∃cn:LL,(ck,cl,cm,cn)=ci∧∃(co:GH) (cp:Value) (cq:Itm) (cr:Value) (ct:Itm) (cu:Value) (cv:Itm) (cw:Value) (cx:Itm),GLe b1 co∧Fr a 80 [(2,iv x2),(3,iv x3),(4,pb ay),(5,pb az),(8,pb aA),(10,iv aT)]∧Mem W co w (ib ay 32 [aa,ab]::ib az 38 [cp,cr,cu,cw]::ib aA 38 [sn,sn,sn,sn]::cq::ct::cv::cx::H)∧Ow R0 2 co cq cp ck∧Ow R0 2 co ct cr cl∧Ow R1 35 co cv cu cm∧Ow R1 35 co cx cw cn) ?_ ?_
       ·refine Bg 13 AV (by kernel_rfl) m (Bc (i:=0) (ds:=[b5,b7,b9,cb]) 13 5 Cd Z Z Z Z (by kernel_rfl) Z f Z Z Z λa f=>Br 1 13 underlying32 Z sizeOf27 Z f Z λa f=>Bo 2 13 4 AW Z Z Z f Z λa f=>As 3 13 Z f Z λa f=>Bd cj λcy cz cj=>Bb 4 13 T27 aq cz Z f Z Z λcA cB a cC cD f=>Ba 5 13 AY cC Z f Z λa f=>As 7 13 Z f Z λa f=>Br 8 13 underlying38 Z sizeOf35 Z f Z λa f=>Bo 9 13 5 AY Z Z Z f Z λa f=>Er (i:=10) 13 0 m cd Z underlying35 Z (by kernel_rfl) Z f Z Z Z λa f=>q_p 11 13 Z f (λ_=>BB (f.e Z) (f.e Z) CA) λa f=>Ev (i:=6) (j:=12) (l1:= #[true,true,true,true,true,true,true,true,true,true,true,true,false,false,false]) (l2:= #[true,true,true,true,true,true,false,true,true,true,true,true,true,false,false]) Z Z (by kernel_rfl) Z Z ?_ ?_)
        ·intro cE w cF m cG cG
         refine have cD:=rd1 cF cD;have cd:=od1 cF cd;have ce:=od1 cF ce;have cf:=od3 cF cf;have cg:=od3 cF cg;Bd cj λcH cI cj=>BK f Z call26 (Wk.e m cD cI) λcJ cK cL w cM m cN a f=>have cd:=od1 cM cd;have ce:=od1 cM ce;have cf:=od3 cM cf;have cg:=od3 cM cg;Aa (cG cL [cK] _ _ cM m (Bw 12 Z λcO w cP m cQ cQ=>have cN:=od1 cP cN;have cd:=od1 cP cd;have ce:=od1 cP ce;have cf:=od3 cP cf;have cg:=od3 cP cg;AO (R:=R0) (xs:=([aS,(i64.wrap ((bY.1.length:Int)-1))]:LI)) (RI.one _) m T35 f Z Z Z (by decide) (All2.cons Z (All2.cons Z (All2.nil _))) λcR cS w a m cT f=>Aa (cQ cO [cR,cK] _ _ gr m (A4 λcU w cV m=>have cT:=od1 cV cT;have cN:=od1 cV cN;have cd:=od1 cV cd;have ce:=od1 cV ce;have cf:=od3 cV cf;have cg:=od3 cV cg;have m:=m.fr 1;?_))))
         obtain⟨cW,cX,m,cY⟩:=Ow.stamp (RI.mono _) cN m
         refine have cT:=od1 cX cT;have cd:=od1 cX cd;have ce:=od1 cX ce;have cf:=od3 cX cf;have cg:=od3 cX cg;?_
         obtain⟨cZ,c0,m,c1⟩:=Ow.stamp (RI.mono _) cT m
         refine have cY:=rd1 c0 cY;have cd:=od1 c0 cd;have ce:=od1 c0 ce;have cf:=od3 c0 cf;have cg:=od3 c0 cg;Bd cj λc2 c3 cj=>A9 f Z call39 (Wk.p m cd ce cf cg cY c1 c3) λc4 c5 c6 w c7 m c8 a f=> ?_
         obtain⟨c9,da,db,dc,dd,de,df,dg,rfl,rfl,dh,di,dj,dk⟩:=c8
         refine Ax 5 0 (ds:=[c9,db,dd,df]) m sizeOf38 f Z Z Z (Af (Ow.one1 0 m dh Z) (Af (Ow.one1 1 m di Z) (Af (Ow.one1 2 m dj Z) (Af (Ow.one1 3 m dk Z) AG)))) Z (lb Z) Z λw m=>Aa (have m:=m.fr 6;have m:=m.fr 6;have m:=m.fr 6;?_)
         obtain rfl:=sj cj
         exact⟨_,_,_,_,Z,_,c9,da,db,dc,dd,de,df,dg,(gt cF (gt cM (gt cP (gt cV (gt cX (gt c0 c7)))))),f.k Z,m,dh,di,dj,dk⟩
        ·intro cO w cP m cQ cQ
         refine Bd cj λcH cI cj=>Bd cj λc2 c3 cj=>have cD:=rd1 cP cD;have cd:=od1 cP cd;have ce:=od1 cP ce;have cf:=od3 cP cf;have cg:=od3 cP cg;AO (R:=R0) (xs:=([aS,(i64.wrap ((bY.1.length:Int)-1))]:LI)) (RI.one _) m T35 f Z Z Z (by decide) (All2.cons Z (All2.cons Z (All2.nil _))) λcR cS w a m cT f=>Aa (cQ cO [cR] _ _ gr m (Bw 6 Z λcE w cF m cG cG=>have cD:=rd1 cF cD;have cT:=od1 cF cT;have cd:=od1 cF cd;have ce:=od1 cF ce;have cf:=od3 cF cf;have cg:=od3 cF cg;BK f Z call26 (Wk.e m cD cI) λcJ cK cL w cM m cN a f=>have cT:=od1 cM cT;have cd:=od1 cM cd;have ce:=od1 cM ce;have cf:=od3 cM cf;have cg:=od3 cM cg;Aa (cG cL [cK,cR] _ _ cM m (A4 λcU w cV m=>have cN:=od1 cV cN;have cT:=od1 cV cT;have cd:=od1 cV cd;have ce:=od1 cV ce;have cf:=od3 cV cf;have cg:=od3 cV cg;?_))))
         obtain⟨cW,cX,m,cY⟩:=Ow.stamp (RI.mono _) cN m
         refine have cT:=od1 cX cT;have cd:=od1 cX cd;have ce:=od1 cX ce;have cf:=od3 cX cf;have cg:=od3 cX cg;?_
         obtain⟨cZ,c0,m,c1⟩:=Ow.stamp (RI.mono _) cT m
         refine have cY:=rd1 c0 cY;have cd:=od1 c0 cd;have ce:=od1 c0 ce;have cf:=od3 c0 cf;have cg:=od3 c0 cg;A9 f Z call39 (Wk.p m cd ce cf cg cY c1 c3) λc4 c5 c6 w c7 m c8 a f=> ?_
         obtain⟨c9,da,db,dc,dd,de,df,dg,rfl,rfl,dh,di,dj,dk⟩:=c8
         refine Ax 5 0 (ds:=[c9,db,dd,df]) m sizeOf38 f Z Z Z (Af (Ow.one1 0 m dh Z) (Af (Ow.one1 1 m di Z) (Af (Ow.one1 2 m dj Z) (Af (Ow.one1 3 m dk Z) AG)))) Z (lb Z) Z λw m=>Aa (have m:=m.fr 6;have m:=m.fr 6;have m:=m.fr 6;?_)
         obtain rfl:=sj cj
         exact⟨_,_,_,_,Z,_,c9,da,db,dc,dd,de,df,dg,(gt cP (gt cF (gt cM (gt cV (gt cX (gt c0 c7)))))),f.k Z,m,dh,di,dj,dk⟩
       ·rintro a w ⟨ck,cl,cm,cn,rfl,co,cp,cq,cr,ct,cu,cv,cw,cx,dl,f,m,dm,dn,dp,dq⟩
        refine Aj (AQ underlying38 Z sizeOf35 f Z λa f=>Ao 1 0 m AY f Z Z Z Z λa f=>BH 3 m dm Z underlying35 f Z Z λa f=>Ai f Z Z CA λa f=>Ac f Z λa f=>Aa (Aj (Ab f Z λa f=>Ai f Z Z AB λa f=>Ac f Z λa f=>Aa ?_)))
        obtain rfl:=sj a8
        exact⟨_,Z,_,_,_,_,_,_,Z,_,cp,cq,cr,ct,cu,cv,cw,cx,(gt ba (gt bo (gt bv (gt bX (gt b3 dl))))),f.k Z,m,dm,dn,dp,dq⟩
      ·refine Ak f Z ch (An (Aj (AQ underlying38 Z sizeOf35 f Z λa f=>Ao 5 0 m AY f Z Z Z Z λa f=>BH 0 m cd Z underlying35 f Z Z λa f=>Ai f Z Z CA λa f=>Ac f Z λa f=>Aa (Aj (Ab f Z λa f=>Ai f Z Z AB λa f=>Ac f Z λa f=>Aa (have m:=m.fr 6;have m:=m.fr 6;have m:=m.fr 6;?_))))))
       obtain rfl:=sj a8
       exact⟨_,Z,_,_,_,_,_,_,Z,_,b5,b6,b7,b8,b9,ca,cb,cc,(gt ba (gt bo (gt bv (gt bX b3)))),f.k Z,m,cd,ce,cf,cg⟩
   ·refine Ak f Z bf (AE Z ?_)
    obtain rfl:=sj a8
    obtain rfl:=a9 _ rfl
    exact⟨_,_,_,_,_,Z,_,aZ,a0,a1,a2,a3,a4,a5,a6,ba,f.k Z,m,bb,bc,bd,be⟩
  ·rintro a w ⟨aD,aE,aF,aG,aH,rfl,aI,aJ,aK,aL,aM,aN,aO,aP,aQ,dr,f,m,dt,du,dv,dw⟩
   refine have aq:=rd2 dr aq;Ah (Ae (Ab f Z λa f=>Ai f Z Z AP λa f=>Aa ?_))
   rcases Ag hd with⟨dx,hd⟩|⟨dx,hd⟩
   ·refine Am f Z dx (Ae (Ay 1 0 (ds:=[aJ,aL,aN,aP]) m Cd f Z Z Z Z Z λa f=>AO (R:=R0) (xs:=([]:LI)) (RI.one _) m T35 f Z Z Z (by decide) (All2.nil _) λdy dz w a m dA f=>AO (R:=R0) (xs:=([]:LI)) (RI.one _) m T35 f Z Z Z (by decide) (All2.nil _) λdB dC w a m dD f=>have m:=m.fr 1;?_))
    obtain⟨dE,dF,m,dG⟩:=Ow.stamp (RI.mono _) dA m
    refine have dD:=od1 dF dD;have aq:=rd2 dF aq;have dt:=od1 dF dt;have du:=od1 dF du;have dv:=od3 dF dv;have dw:=od3 dF dw;?_
    obtain⟨dH,dI,m,dJ⟩:=Ow.stamp (RI.mono _) dD m
    refine have dG:=rd1 dI dG;have aq:=rd2 dI aq;have dt:=od1 dI dt;have du:=od1 dI du;have dv:=od3 dI dv;have dw:=od3 dI dw;have m:=m.fr 6;have m:=m.fr 6;have m:=m.fr 6;have m:=m.fr 6;Bd hd λdK dL hd=>A9 f Z call39 (Wk.p m dt du dv dw dG dJ dL) λdM dN dO w dP m dQ a f=> ?_
    obtain⟨dR,dS,dT,dU,dV,dW,dX,dY,rfl,rfl,dZ,d0,d1,d2⟩:=dQ
    refine have aq:=rd2 dP aq;Ax 5 0 (ds:=[dR,dT,dV,dX]) m sizeOf38 f Z Z Z (Af (Ow.one1 0 m dZ Z) (Af (Ow.one1 1 m d0 Z) (Af (Ow.one1 2 m d1 Z) (Af (Ow.one1 3 m d2 Z) AG)))) Z (lb Z) Z λw m=>Aa (Bg 7 AV (by kernel_rfl) m (Bc (i:=0) (ds:=[dR,dT,dV,dX]) 7 5 Cd Z Z Z Z (by kernel_rfl) Z f Z Z Z λa f=>Br 2 7 underlying32 Z sizeOf27 Z f Z λa f=>Bo 3 7 4 AW Z Z Z f Z λa f=>As 4 7 Z f Z λa f=>Bd hd λd3 d4 hd=>Bb 5 7 T27 aq d4 Z f Z Z λd5 d6 a d7 d8 f=>Ba 6 7 AY d7 Z f Z λa f=>Bw 1 Z λd9 w ea m eb eb=>have d8:=rd1 ea d8;have dZ:=od1 ea dZ;have d0:=od1 ea d0;have d1:=od3 ea d1;have d2:=od3 ea d2;AO (R:=R0) (xs:=([]:LI)) (RI.one _) m T35 f Z Z Z (by decide) (All2.nil _) λec ed w a m ee f=>Aa (eb d9 [ec] _ _ gr m (A4 λef w eg m=>have d8:=rd1 eg d8;have ee:=od1 eg ee;have dZ:=od1 eg dZ;have d0:=od1 eg d0;?_))))
    refine have d1:=od3 eg d1;have d2:=od3 eg d2;?_
    obtain⟨eh,ei,m,ej⟩:=Ow.stamp (RI.mono _) ee m
    refine have d8:=rd1 ei d8;have dZ:=od1 ei dZ;have d0:=od1 ei d0;have d1:=od3 ei d1;have d2:=od3 ei d2;Bd hd λek el hd=>A9 f Z call38 (Wk.a0 m dZ d0 d1 d2 ej d8 el) λem en eo w ep m eq a f=> ?_
    obtain⟨er,es,et,eu,ev,ew,ex,ey,rfl,rfl,ez,eA,eB,eC⟩:=eq
    refine Ax 5 0 (ds:=[er,et,ev,ex]) m sizeOf38 f Z Z Z (Af (Ow.one1 0 m ez Z) (Af (Ow.one1 1 m eA Z) (Af (Ow.one1 2 m eB Z) (Af (Ow.one1 3 m eC Z) AG)))) Z (lb Z) Z λw m=>AF (Ay 5 0 (ds:=[er,et,ev,ex]) m Cd f Z Z Z Z Z λa f=>Ax 6 0 (ds:=[er,et,ev,ex]) m sizeOf38 f Z Z Z (Af (Ow.one1 0 m ez Z) (Af (Ow.one1 1 m eA Z) (Af (Ow.one1 2 m eB Z) (Af (Ow.one1 3 m eC Z) AG)))) Z (lb Z) Z λw m=>Aa (Ar (have eD:=Cs (P:=prog) 6 m Cd f (s:=8) rfl rfl rfl;have m:=m.eraseAt 6;have m:=m.eraseAt 5;have m:=m.eraseAt 4;?_)))
    obtain rfl:=sj hd
    exact⟨[(.agg #[er,et,ev,ex])],⟨eD,trivial⟩,f.d,_,[es,eu,ew,ey],(gt dr (gt dF (gt dI (gt dP (gt ea (gt eg (gt ei ep))))))),m,_,_,_,_,_,_,_,_,Z,Z,ez,eA,eB,eC⟩
   ·refine Ak f Z dx (An (Ae (Ay 1 0 (ds:=[aJ,aL,aN,aP]) m Cd f Z Z Z Z Z λa f=>Ax 2 0 (ds:=[aJ,aL,aN,aP]) m sizeOf38 f Z Z Z (Af (Ow.one1 3 m dt Z) (Af (Ow.one1 4 m du Z) (Af (Ow.one1 5 m dv Z) (Af (Ow.one1 6 m dw Z) AG)))) Z (lb Z) Z λw m=>Aa (Ar (have eE:=Cs (P:=prog) 2 m Cd f (s:=8) rfl rfl rfl;have m:=m.fr 6;have m:=m.fr 6;have m:=m.fr 6;have m:Mem W aI w (aK::aM::aO::aQ::ib ay 32 [aa,ab]::ib az 38 [aJ,aL,aN,aP]::ib aA 38 [aJ,aL,aN,aP]::H):=m.fr 6;have m:=m.eraseAt 6;have m:=m.eraseAt 5;have m:=m.eraseAt 4;?_)))))
    obtain rfl:=sj hd
    exact⟨[(.agg #[aJ,aL,aN,aP])],⟨eE,trivial⟩,f.d,_,[aK,aM,aO,aQ],dr,m,_,_,_,_,_,_,_,_,Z,Z,dt,du,dv,dw⟩
theorem Wk.B {aa ab ac:Value}{ad:Itm}{ae:Value}{af:Itm}{ag:Value}{ah:Itm}{ai:Value}{aj:Itm}{ak al:LL}{am an:LI}{ao ap:LL}{x2 x3:Int}(m:Mem W G w (ad::af::ah::aj::H))(aq:R2 G aa ak)(ar:R2 G ab al)(au:Ow R0 2 G ad ac am)(av:Ow R0 2 G af ae an)(aw:Ow R1 35 G ah ag ao)(ax:Ow R1 35 G aj ai ap){y:(LI)×(LI)×(LL)×(LL)}(hd:D.B ak al am an ao ap x2 x3=some y):
  Calls prog 37 #[(.agg #[aa,ab]),(.agg #[ac,ae,ag,ai]),iv x2,iv x3] w (Res W G H (λG' Ho v=>∃r0:Value,∃i0:Itm,∃r2:Value,∃i2:Itm,∃r4:Value,∃i4:Itm,∃r6:Value,∃i6:Itm,Ho=[i0,i2,i4,i6]∧v=(.agg #[r0,r2,r4,r6])∧Ow R0 2 G' i0 r0 y.1∧Ow R0 2 G' i2 r2 y.2.1∧Ow R1 35 G' i4 r4 y.2.2.1∧Ow R1 35 G' i6 r6 y.2.2.2)):=by
 exact Wk.g0 Bx m aq ar au av aw ax hd
theorem Wk.U0 {aa ab ac:Value}{ad ae af:LL}(m:Mem W G w (H))(ag:R2 G aa ad)(ah:R2 G ab ae)(ai:R2 G ac af){y:(LI)×(LI)×(LL)×(LL)×Bool}(hd:D.U0 ad ae af=some y):
  Calls prog 10 #[(.agg #[aa]),(.agg #[ab,ac])] w (Res W G H (λG' Ho v=>∃r0:Value,∃i0:Itm,∃r2:Value,∃i2:Itm,∃r4:Value,∃i4:Itm,∃r6:Value,∃i6:Itm,Ho=[i0,i2,i4,i6]∧v= .tuple #[(.agg #[r0,r2,r4,r6]),(.bool y.2.2.2.2)]∧Ow R0 2 G' i0 r0 y.1∧Ow R0 2 G' i2 r2 y.2.1∧Ow R1 35 G' i4 r4 y.2.2.1∧Ow R1 35 G' i6 r6 y.2.2.2.1)):=by
 refine Au (args:=[(.agg #[aa]),(.agg #[ab,ac])]) (N:=78) [.cell 4 38,.tmp 5] func10 Z Z (lb Z) Z λa f=> ?_
 unfold D.U0 at hd
 refine Ae (A3 (cs:=[aa]) m f Z Z Z λaj w a m f=>A3 (cs:=[ab,ac]) m f Z Z Z λak w a m f=>Bp (cs:=[sn,sn,sn,sn]) zeroValue38 m f Z Z λal w a m f=>Ac f Z λa f=>Aa (Ah (Ae (Ay 2 0 (ds:=[aa]) m Bh f Z Z Z Z Z λa f=>Ay 1 0 (ds:=[ab,ac]) m DH f Z Z Z Z Z λa f=>Bd hd λam an hd=>A2 f Z call36 (Wk.y1 m ag ah ai an) λao w ap m a f=>have ah:=rd2 ap ah;have ai:=rd2 ap ai;l_o f (Bj (f.e Z)) λa f=>Aa ?_))))
 rcases Ag hd with⟨aq,hd⟩|⟨aq,hd⟩
 ·refine Am f Z aq (Ae ?_)
  have ar:∀w,(Instr.build 38 #[]).run prog w= .ok (.agg #[sn,sn,sn,sn]) w:=by intro w;simp[Instr.build,Instr.fill,Cb,B5,BI,BQ,BA,B9,B3]
  refine CM f Z Z ar λa f=>Ax 0 0 (ds:=[sn,sn,sn,sn]) m sizeOf38 f Z Z Z (Af Z (Af Z (Af Z (Af Z AG)))) Z (lb Z) Z λw m=>Ac f Z λa f=>Aa (Ar ?_)
  obtain⟨au,m,av⟩:=Ow.nil R0 2 m
  obtain⟨aw,m,ax⟩:=Ow.nil R0 2 m
  obtain⟨ay,m,az⟩:=Ow.nil R1 35 m
  obtain⟨aA,m,aB⟩:=Ow.nil R1 35 m
  refine have aC:=Cs (P:=prog) 4 m Cd f (s:=4) rfl rfl rfl;have m:=m.fr 1;have m:=m.fr 2;have m:=m.fr 3;have m:Mem W ao w (au::aw::ay::aA::ib al 38 [sn,sn,sn,sn]::ib ak 32 [ab,ac]::H):=m.eraseAt 6;have m:=m.eraseAt 5;have m:=m.eraseAt 4;?_
  obtain rfl:=sj hd
  exact⟨[(.agg #[sn,sn,sn,sn]),(.bool false)],⟨aC,f.get _ _ Z,trivial⟩,f.d,_,[au,aw,ay,aA],ap,m,_,_,_,_,_,_,_,_,Z,Z,av,ax,az,aB⟩
 ·refine Ak f Z aq (An (Ah (Ae (Ac f Z λa f=>Aa (Bd hd λaD aE hd=> ?_)))))
  refine AL (λa w=>∃q_49':Unit,aD= .inl q_49'∧∃(aF:GH),GLe ao aF∧Fr a 78 [(3,pb ak),(4,pb al)]∧Mem W aF w (ib ak 32 [ab,ac]::ib al 38 [sn,sn,sn,sn]::H)) ?_ ?_
  ·refine Al (have m:=m.fr 1;have m:=m.eraseAt 2;AM (λaG a w=>∃aH:Int,aH=aG∧∃(aI:GH),GLe ao aI∧Fr a 78 [(3,pb ak),(4,pb al),(6,iv aH)]∧Mem W aI w (ib ak 32 [ab,ac]::ib al 38 [sn,sn,sn,sn]::H)) aE ⟨_,Z,_,gr,f.k Z,m⟩ ?_)
   clear aE f m
   rintro aG aJ aK aL a w ⟨aH,rfl,aI,aM,f,m⟩
   refine have ah:=rd2 aM ah;Ah (Ae (Ab f Z λa f=>AQ underlying32 Z sizeOf27 f Z λa f=>Ao 0 0 m AW f Z Z Z Z λa f=>AN underlying27 f Z Z ah λa f=>Ai f Z Z AP λa f=>Aa ?_))
   rcases Ag aK with⟨aN,aK⟩|⟨aN,aK⟩
   ·refine Am f Z aN (An (Ah (Al (Ae (AQ underlying32 Z sizeOf27 f Z λa f=>Ao 0 0 m AW f Z Z Z Z λa f=>Ab f Z λa f=>Bd aK λaO aP aK=>AX T27 f Z Z Z ah aP λaQ aR a aS aT f=>Aw m AY f Z Z aS λa f=>AN underlying35 f Z Z aT λa f=>Ai f Z Z CK λa f=>Aa ?_)))))
    rcases Ag aK with⟨aU,aK⟩|⟨aU,aK⟩
    ·refine Am f Z aU (Ae ?_)
     have aV:∀w,(Instr.build 38 #[]).run prog w= .ok (.agg #[sn,sn,sn,sn]) w:=by intro w;simp[Instr.build,Instr.fill,Cb,B5,BI,BQ,BA,B9,B3]
     refine CM f Z Z aV λa f=>Ax 1 0 (ds:=[sn,sn,sn,sn]) m sizeOf38 f Z Z Z (Af Z (Af Z (Af Z (Af Z AG)))) Z (lb Z) Z λw m=>Ac f Z λa f=>Aa (Ar ?_)
     obtain⟨aW,m,aX⟩:=Ow.nil R0 2 m
     obtain⟨aY,m,aZ⟩:=Ow.nil R0 2 m
     obtain⟨a0,m,a1⟩:=Ow.nil R1 35 m
     obtain⟨a2,m,a3⟩:=Ow.nil R1 35 m
     refine have a4:=Cs (P:=prog) 5 m Cd f (s:=4) rfl rfl rfl;have m:=m.fr 1;have m:=m.fr 2;have m:=m.fr 3;have m:Mem W aI w (aW::aY::a0::a2::ib ak 32 [ab,ac]::H):=m.eraseAt 5;have m:=m.eraseAt 4;?_
     obtain rfl:=sj aK
     obtain rfl:=aL _ rfl
     obtain rfl:=sj hd
     exact⟨[(.agg #[sn,sn,sn,sn]),(.bool false)],⟨a4,f.get _ _ Z,trivial⟩,f.d,_,[aW,aY,a0,a2],(gt ap aM),m,_,_,_,_,_,_,_,_,Z,Z,aX,aZ,a1,a3⟩
    ·refine Ak f Z aU (An (Aj (Ab f Z λa f=>Ai f Z Z AB λa f=>Ac f Z λa f=>Aa ?_)))
     obtain rfl:=sj aK
     exact⟨_,Z,_,Z,_,aM,f.k Z,m⟩
   ·refine Ak f Z aN (AE Z ?_)
    obtain rfl:=sj aK
    obtain rfl:=aL _ rfl
    exact⟨_,Z,_,aM,f.k Z,m⟩
  ·rintro a w ⟨_,rfl,aF,a5,f,m⟩
   refine have ah:=rd2 a5 ah;have ai:=rd2 a5 ai;Ae (Ay 0 0 (ds:=[ab,ac]) m DH f Z Z Z Z Z λa f=> ?_)
   have a6:∀w,(Instr.build 38 #[]).run prog w= .ok (.agg #[sn,sn,sn,sn]) w:=by intro w;simp[Instr.build,Instr.fill,Cb,B5,BI,BQ,BA,B9,B3]
   refine CM f Z Z a6 λa f=> ?_
   obtain⟨a7,m,a8⟩:=Ow.nil R0 2 m
   obtain⟨a9,m,ba⟩:=Ow.nil R0 2 m
   obtain⟨bb,m,bc⟩:=Ow.nil R1 35 m
   obtain⟨bd,m,be⟩:=Ow.nil R1 35 m
   refine have m:=m.fr 1;have m:=m.fr 2;have m:=m.fr 3;Bd hd λbf bg hd=>A9 f Z call37 (Wk.B m ah ai a8 ba bc be bg) λbh bi bj w bk m bl a f=> ?_
   obtain⟨bm,bn,bo,bp,bq,br,bs,bt,rfl,rfl,bu,bv,bw,bx⟩:=bl
   refine have ah:=rd2 bk ah;Bp (cs:=[sn,sn,sn,sn]) zeroValue38 m f Z Z λbz w a m f=>Ax 0 0 (ds:=[bm,bo,bq,bs]) m sizeOf38 f Z Z Z (Af (Ow.one1 1 m bu Z) (Af (Ow.one1 2 m bv Z) (Af (Ow.one1 3 m bw Z) (Af (Ow.one1 4 m bx Z) AG)))) Z (lb Z) Z λw m=>Aa (Ah (Bg 6 AV (by kernel_rfl) m (Bc (i:=0) (ds:=[bm,bo,bq,bs]) 6 0 Cd Z Z Z Z (by kernel_rfl) Z f Z Z Z λa f=>Br 1 6 underlying32 Z sizeOf27 Z f Z λa f=>Bo 2 6 5 AW Z Z Z f Z λa f=>Bd hd λbA bB hd=>Bb 3 6 T27 ah bB Z f Z Z λbC bD a bE bF f=>Ba 4 6 AY bE Z f Z λa f=>Bw 5 Z λbG w bH m bI bI=>have bF:=rd1 bH bF;have bu:=od1 bH bu;have bv:=od1 bH bv;have bw:=od3 bH bw;have bx:=od3 bH bx;AO (R:=R0) (xs:=([]:LI)) (RI.one _) m T35 f Z Z Z (by decide) (All2.nil _) λbJ bK w a m bL f=>Aa (bI bG [bJ] _ _ gr m (A4 λbM w bN m=>have bF:=rd1 bN bF;have bL:=od1 bN bL;?_)))))
   refine have bu:=od1 bN bu;have bv:=od1 bN bv;have bw:=od3 bN bw;have bx:=od3 bN bx;?_
   obtain⟨bO,bP,m,bQ⟩:=Ow.stamp (RI.mono _) bL m
   refine have bF:=rd1 bP bF;have bu:=od1 bP bu;have bv:=od1 bP bv;have bw:=od3 bP bw;have bx:=od3 bP bx;have m:=m.fr 4;have m:=m.fr 4;have m:=m.fr 4;have m:=m.fr 4;Bd hd λbR bS hd=>A9 f Z call38 (Wk.a0 m bu bv bw bx bF bQ bS) λbT bU bV w bW m bX a f=> ?_
   obtain⟨bY,bZ,b0,b1,b2,b3,b4,b5,rfl,rfl,b6,b7,b8,b9⟩:=bX
   refine Ax 4 0 (ds:=[bY,b0,b2,b4]) m sizeOf38 f Z Z Z (Af (Ow.one1 0 m b6 Z) (Af (Ow.one1 1 m b7 Z) (Af (Ow.one1 2 m b8 Z) (Af (Ow.one1 3 m b9 Z) AG)))) Z (lb Z) Z λw m=>Aa (Ah (Ae (AQ underlying38 Z sizeOf35 f Z λa f=>Ao 4 0 m AY f Z Z Z Z λa f=>BH 0 m b6 Z underlying35 f Z Z λa f=>Ai f Z Z CK λa f=>Aa ?_)))
   rcases Ag hd with⟨ca,hd⟩|⟨ca,hd⟩
   ·refine Am f Z ca (Ae ?_)
    have cb:∀w,(Instr.build 38 #[]).run prog w= .ok (.agg #[sn,sn,sn,sn]) w:=by intro w;simp[Instr.build,Instr.fill,Cb,B5,BI,BQ,BA,B9,B3]
    refine CM f Z Z cb λa f=>Ax 6 0 (ds:=[sn,sn,sn,sn]) m sizeOf38 f Z Z Z (Af Z (Af Z (Af Z (Af Z AG)))) Z (lb Z) Z λw m=>Ac f Z λa f=>Aa (Ar ?_)
    obtain⟨cc,m,cd⟩:=Ow.nil R0 2 m
    obtain⟨ce,m,cf⟩:=Ow.nil R0 2 m
    obtain⟨cg,m,ch⟩:=Ow.nil R1 35 m
    obtain⟨ci,m,cj⟩:=Ow.nil R1 35 m
    refine have ck:=Cs (P:=prog) 10 m Cd f (s:=4) rfl rfl rfl;have m:=m.fr 1;have m:=m.fr 2;have m:=m.fr 3;have m:Mem W bU w (cc::ce::cg::ci::bZ::b1::b3::b5::ib bz 38 [bY,b0,b2,b4]::ib ak 32 [ab,ac]::H):=m.eraseAt 10;have m:=m.eraseAt 9;have m:=m.eraseAt 8;have m:=m.eraseAt 7;have m:Mem W bU w (cc::ce::cg::ci::bZ::b1::H):=m.eraseAt 6;have m:=m.eraseAt 5;have m:=m.eraseAt 4;?_
    obtain rfl:=sj hd
    exact⟨[(.agg #[sn,sn,sn,sn]),(.bool false)],⟨ck,f.get _ _ Z,trivial⟩,f.d,_,[cc,ce,cg,ci],(gt ap (gt a5 (gt bk (gt bH (gt bN (gt bP bW)))))),m,_,_,_,_,_,_,_,_,Z,Z,cd,cf,ch,cj⟩
   ·refine Ak f Z ca (An (Ae ?_))
    have cl:∀w,(Instr.build 38 #[]).run prog w= .ok (.agg #[sn,sn,sn,sn]) w:=by intro w;simp[Instr.build,Instr.fill,Cb,B5,BI,BQ,BA,B9,B3]
    refine CM f Z Z cl λa f=>Bp (cs:=[sn,sn,sn,sn]) zeroValue38 m f Z Z λcm w a m f=>Ax 0 0 (ds:=[sn,sn,sn,sn]) m sizeOf38 f Z Z Z (Af Z (Af Z (Af Z (Af Z AG)))) Z (lb Z) Z λw m=>Aa (Ah (Ae (Ac f Z λa f=>Aa ?_)))
    obtain⟨cn,m,co⟩:=Ow.nil R0 2 m
    obtain⟨cp,m,cq⟩:=Ow.nil R0 2 m
    obtain⟨cr,m,ct⟩:=Ow.nil R1 35 m
    obtain⟨cu,m,cv⟩:=Ow.nil R1 35 m
    have⟨cw,cx,hd⟩:=bind_some hd
    refine AL (λa w=>∃cy:LI,∃cz:LI,∃cA:LL,∃cB:LL,(cy,cz,cA,cB)=cw∧∃(cC:GH) (cD:Value) (cE:Itm) (cF:Value) (cG:Itm) (cH:Value) (cI:Itm) (cJ:Value) (cK:Itm),GLe bU cC∧Fr a 78 [(4,pb al),(8,pb cm)]∧Mem W cC w (ib al 38 [sn,sn,sn,sn]::ib cm 38 [cD,cF,cH,cJ]::cE::cG::cI::cK::H)∧Ow R0 2 cC cE cD cy∧Ow R0 2 cC cG cF cz∧Ow R1 35 cC cI cH cA∧Ow R1 35 cC cK cJ cB) ?_ ?_
    ·refine Al (have m:=m.fr 1;have m:=m.fr 2;have m:=m.fr 3;have m:Mem W bU w (b5::cn::cp::cr::cu::ib cm 38 [sn,sn,sn,sn]::bZ::b1::b3::ib bz 38 [bY,b0,b2,b4]::ib ak 32 [ab,ac]::ib al 38 [sn,sn,sn,sn]::H):=m.fr 8;have m:=m.fr 8;have m:=m.fr 8;have m:=m.fr 8;have m:Mem W bU w (ib cm 38 [sn,sn,sn,sn]::bZ::b1::b3::b5::cn::cp::cr::cu::ib bz 38 [bY,b0,b2,b4]::ib ak 32 [ab,ac]::ib al 38 [sn,sn,sn,sn]::H):=m.fr 8;have m:=m.fr 9;have m:=m.fr 11;have m:=m.eraseAt 11;?_)
     refine AM (λcL a w=>∃cM:Int,∃cN:LI,∃cO:LI,∃cP:LL,∃cQ:LL,(cM,cN,cO,cP,cQ)=cL∧∃(cR:GH) (cS:Value) (cT:Itm) (cU:Value) (cV:Itm) (cW:Value) (cX:Itm) (cY:Value) (cZ:Itm),GLe bU cR∧Fr a 78 [(4,pb al),(7,pb bz),(8,pb cm),(9,iv cM)]∧Mem W cR w (ib al 38 [sn,sn,sn,sn]::ib bz 38 [bY,b0,b2,b4]::ib cm 38 [cS,cU,cW,cY]::bZ::b1::b3::b5::cT::cV::cX::cZ::H)∧Ow R0 2 cR cT cS cN∧Ow R0 2 cR cV cU cO∧Ow R1 35 cR cX cW cP∧Ow R1 35 cR cZ cY cQ) cx ⟨_,_,_,_,_,Z,_,sn,cn,sn,cp,sn,cr,sn,cu,gr,f.k Z,m,co,cq,ct,cv⟩ ?_
     clear cx f m
     rintro cL c0 c1 c2 a w ⟨cM,cN,cO,cP,cQ,rfl,cR,cS,cT,cU,cV,cW,cX,cY,cZ,c3,f,m,c4,c5,c6,c7⟩
     refine have b6:=od1 c3 b6;have b7:=od1 c3 b7;have b8:=od3 c3 b8;have b9:=od3 c3 b9;Ah (Ae (Ab f Z λa f=>AQ underlying38 Z sizeOf35 f Z λa f=>Ao 1 0 m AY f Z Z Z Z λa f=>BH 3 m b6 Z underlying35 f Z Z λa f=>Ai f Z Z AP λa f=>Aa ?_))
     rcases Ag c1 with⟨c8,c1⟩|⟨c8,c1⟩
     ·refine Am f Z c8 (An (Ah (Al (Bg 23 AV (by kernel_rfl) m (Bc (i:=0) (ds:=[cS,cU,cW,cY]) 23 2 Cd Z Z Z Z (by kernel_rfl) Z f Z Z Z λa f=>Br 1 23 underlying38 Z sizeOf35 Z f Z λa f=>Bo 2 23 1 AY Z Z Z f Z λa f=>As 3 23 Z f Z λa f=>Bd c1 λc9 da c1=>DD 4 23 3 m b6 T35 da Z f Z Z λdb a dc f=>Ew 5 23 3 b6 Pl2 dc da Z f Z λdd a de f=> ?_)))))
      subst de
      refine Br 6 23 underlying38 Z sizeOf35 Z f Z λa f=>Bo 7 23 1 AY Z Z Z f Z λa f=>As 8 23 Z f Z λa f=>Bd c1 λdf dg c1=>DD 9 23 4 m b7 T35 dg Z f Z Z λdh a di f=>Ew 10 23 4 b7 Pl2 di dg Z f Z λdj a dk f=> ?_
      subst dk
      refine Br 11 23 underlying38 Z sizeOf27 Z f Z λa f=>Bo 12 23 1 AW Z Z Z f Z λa f=>As 13 23 Z f Z λa f=>Bd c1 λdl dm c1=>DD 14 23 5 m b8 T27 dm Z f Z Z λdn a dp f=>Ew 15 23 5 b8 AY dp dm Z f Z λdq a dr f=>Br 17 23 underlying38 Z sizeOf27 Z f Z λa f=>Bo 18 23 1 AW Z Z Z f Z λa f=>As 19 23 Z f Z λa f=>Bd c1 λdt du c1=>DD 20 23 6 m b9 T27 du Z f Z Z λdv a dw f=>Ew 21 23 6 b9 AY dw du Z f Z λdx a dy f=>Bw 16 Z λdz w dA m dB dB=>have dr:=rd1 dA dr;have dy:=rd1 dA dy;have c4:=od1 dA c4;have c5:=od1 dA c5;have c6:=od3 dA c6;have c7:=od3 dA c7;Bd c1 λdC dD c1=>BK f Z call26 (Wk.e m dr dD) λdE dF dG w dH m dI a f=>have dy:=rd1 dH dy;have c4:=od1 dH c4;have c5:=od1 dH c5;have c6:=od3 dH c6;have c7:=od3 dH c7;Aa (dB dG [dF] _ _ dH m (Bw 22 Z λdJ w dK m dL dL=>have dy:=rd1 dK dy;have dI:=od1 dK dI;have c4:=od1 dK c4;have c5:=od1 dK c5;?_))
      refine have c6:=od3 dK c6;have c7:=od3 dK c7;Bd c1 λdM dN c1=>BK f Z call26 (Wk.e m dy dN) λdO dP dQ w dR m dS a f=>have dI:=od1 dR dI;have c4:=od1 dR c4;have c5:=od1 dR c5;have c6:=od3 dR c6;have c7:=od3 dR c7;Aa (dL dQ [dP,dF] _ _ dR m (A4 λdT w dU m=>have dS:=od1 dU dS;have dI:=od1 dU dI;have c4:=od1 dU c4;have c5:=od1 dU c5;have c6:=od3 dU c6;have c7:=od3 dU c7;have m:=m.fr 1;?_))
      obtain⟨dV,dW,m,dX⟩:=Ow.stamp (RI.mono _) dI m
      refine have dS:=od1 dW dS;have c4:=od1 dW c4;have c5:=od1 dW c5;have c6:=od3 dW c6;have c7:=od3 dW c7;?_
      obtain⟨dY,dZ,m,d0⟩:=Ow.stamp (RI.mono _) dS m
      refine have dX:=rd1 dZ dX;have c4:=od1 dZ c4;have c5:=od1 dZ c5;have c6:=od3 dZ c6;have c7:=od3 dZ c7;have m:=m.fr 10;have m:=m.fr 10;have m:=m.fr 10;have m:=m.fr 10;Bd c1 λd1 d2 c1=>A9 f Z call39 (Wk.p m c4 c5 c6 c7 dX d0 d2) λd3 d4 d5 w d6 m d7 a f=> ?_
      obtain⟨d8,d9,ea,eb,ec,ed,ee,ef,rfl,rfl,eg,eh,ei,ej⟩:=d7
      refine Ax 6 0 (ds:=[d8,ea,ec,ee]) m sizeOf38 f Z Z Z (Af (Ow.one1 0 m eg Z) (Af (Ow.one1 1 m eh Z) (Af (Ow.one1 2 m ei Z) (Af (Ow.one1 3 m ej Z) AG)))) Z (lb Z) Z λw m=>Aa (Aj (Ab f Z λa f=>Ai f Z Z AB λa f=>Ac f Z λa f=>Aa (have m:=m.fr 10;have m:=m.fr 10;have m:=m.fr 10;have m:Mem W d4 w (bZ::b1::b3::b5::d9::eb::ed::ef::ib al 38 [sn,sn,sn,sn]::ib bz 38 [bY,b0,b2,b4]::ib cm 38 [d8,ea,ec,ee]::H):=m.fr 10;have m:=m.fr 10;have m:=m.fr 10;have m:=m.fr 10;?_)))
      obtain rfl:=sj c1
      exact⟨_,Z,_,_,_,_,_,Z,_,d8,d9,ea,eb,ec,ed,ee,ef,(gt c3 (gt dA (gt dH (gt dK (gt dR (gt dU (gt dW (gt dZ d6)))))))),f.k Z,m,eg,eh,ei,ej⟩
     ·refine Ak f Z c8 (AE Z (have m:=m.fr 10;have m:=m.fr 10;have m:=m.fr 10;have m:Mem W cR w (cT::cV::cX::cZ::ib al 38 [sn,sn,sn,sn]::ib bz 38 [bY,b0,b2,b4]::ib cm 38 [cS,cU,cW,cY]::bZ::b1::b3::b5::H):=m.fr 10;have m:=m.fr 6;have m:=m.fr 5;have m:=m.fr 10;have m:Mem W cR w (b3::b5::ib al 38 [sn,sn,sn,sn]::ib cm 38 [cS,cU,cW,cY]::cT::cV::cX::cZ::ib bz 38 [bY,b0,b2,b4]::bZ::b1::H):=m.fr 10;have m:=m.fr 10;have m:=m.fr 10;have m:=m.fr 9;have m:Mem W cR w (cX::cZ::bZ::b1::b3::b5::ib al 38 [sn,sn,sn,sn]::ib cm 38 [cS,cU,cW,cY]::cT::cV::ib bz 38 [bY,b0,b2,b4]::H):=m.fr 9;have m:=m.fr 9;have m:=m.fr 9;have m:=m.fr 9;have m:Mem W cR w (ib al 38 [sn,sn,sn,sn]::ib cm 38 [cS,cU,cW,cY]::cT::cV::cX::cZ::bZ::b1::b3::b5::ib bz 38 [bY,b0,b2,b4]::H):=m.fr 9;have m:=m.eraseAt 10;have m:=m.eraseAt 9;?_))
      refine have m:=m.eraseAt 8;have m:Mem W cR w (ib al 38 [sn,sn,sn,sn]::ib cm 38 [cS,cU,cW,cY]::cT::cV::cX::cZ::bZ::H):=m.eraseAt 7;have m:=m.eraseAt 6;?_
      obtain rfl:=sj c1
      obtain rfl:=c2 _ rfl
      exact⟨_,_,_,_,Z,_,cS,cT,cU,cV,cW,cX,cY,cZ,c3,f.k Z,m,c4,c5,c6,c7⟩
    ·rintro a w ⟨cy,cz,cA,cB,rfl,cC,cD,cE,cF,cG,cH,cI,cJ,cK,ek,f,m,el,em,en,eo⟩
     refine Ae (Ay 1 0 (ds:=[cD,cF,cH,cJ]) m Cd f Z Z Z Z Z λa f=>Ax 0 0 (ds:=[cD,cF,cH,cJ]) m sizeOf38 f Z Z Z (Af (Ow.one1 2 m el Z) (Af (Ow.one1 3 m em Z) (Af (Ow.one1 4 m en Z) (Af (Ow.one1 5 m eo Z) AG)))) Z (lb Z) Z λw m=>Ac f Z λa f=>Aa (Ar (have ep:=Cs (P:=prog) 0 m Cd f (s:=4) rfl rfl rfl;have m:=m.fr 5;have m:=m.fr 5;have m:=m.fr 5;have m:Mem W cC w (cE::cG::cI::cK::ib al 38 [cD,cF,cH,cJ]::ib cm 38 [cD,cF,cH,cJ]::H):=m.fr 5;have m:=m.eraseAt 5;have m:=m.eraseAt 4;?_)))
     obtain rfl:=sj hd
     exact⟨[(.agg #[cD,cF,cH,cJ]),(.bool true)],⟨ep,f.get _ _ Z,trivial⟩,f.d,_,[cE,cG,cI,cK],(gt ap (gt a5 (gt bk (gt bH (gt bN (gt bP (gt bW ek))))))),m,_,_,_,_,_,_,_,_,Z,Z,el,em,en,eo⟩
theorem Wk.Q {v0 v1:Value}{x0 x1:LI}(m:Mem W G w (H))(h0:R1 G v0 x0)(h1:R1 G v1 x1){y:Bool}(hd:D.Q x0 x1=some y):
  Calls prog 105 #[v0,v1] w (Res W G H (λ_ Ho v=>Ho=[]∧v=(.bool y))):=by
 refine Au (args:=[v0,v1]) (N:=26) [.tmp 4] func105 Z Z (lb Z) Z λa f=> ?_
 unfold D.Q at hd
 refine Ae (Ac f Z λa f=>Aa (Ah (Ae (Ab f Z λa f=>AN underlying35 f Z Z h0 λa f=>Ab f Z λa f=>AN underlying35 f Z Z h1 λa f=>Ai f Z Z Cw λa f=>Aa ?_))))
 rcases Ag hd with⟨aa,hd⟩|⟨aa,hd⟩
 ·refine Am f Z aa (Ae (Ac f Z λa f=>Aa (Ar ?_)))
  obtain rfl:=sj hd
  exact⟨[(.bool false)],f.g Z,f.d,_,[],gr,m,Z,Z⟩
 ·refine Ak f Z aa (An (Ah (Ae (Ac f Z λa f=>Aa (Bd hd λab ac hd=> ?_)))))
  refine AL (λa w=>∃q_36':Unit,ab= .inl q_36'∧∃(ad:GH),GLe G ad∧Fr a 26 []∧Mem W ad w (H)) ?_ ?_
  ·refine Al (AM (λae a w=>∃af:Int,af=ae∧∃(ag:GH),GLe G ag∧Fr a 26 [(0,v0),(1,v1),(5,iv af)]∧Mem W ag w (H)) ac ⟨_,Z,_,gr,f.k Z,m⟩ ?_)
   clear ac f m
   rintro ae ah ai aj a w ⟨af,rfl,ag,ak,f,m⟩
   refine have h0:=rd1 ak h0;have h1:=rd1 ak h1;Ah (Ae (Ab f Z λa f=>Ab f Z λa f=>AN underlying35 f Z Z h0 λa f=>Ai f Z Z AP λa f=>Aa ?_))
   rcases Ag ai with⟨al,ai⟩|⟨al,ai⟩
   ·refine Am f Z al (An (Ah (Al (Ah (Bg 9 AV (by kernel_rfl) m (As 0 9 Z f Z λa f=>As 1 9 Z f Z λa f=>Bd ai λam an ai=>Bb 2 9 T35 h0 an Z f Z Z λao ap a aq ar f=> ?_))))))
    subst ar
    refine Ba 3 9 Pl2 aq Z f Z λa f=>As 4 9 Z f Z λa f=>As 5 9 Z f Z λa f=>Bd ai λau av ai=>Bb 6 9 T35 h1 av Z f Z Z λaw ax a ay az f=> ?_
    subst az
    refine Ba 7 9 Pl2 ay Z f Z λa f=>q_p 8 9 Z f (λ_=>BB (f.e Z) (f.e Z) Cw) λa f=>A4 λaA w aB m=>Aa ?_
    rcases Ag ai with⟨aC,ai⟩|⟨aC,ai⟩
    ·refine Am f Z aC (Ae (Ac f Z λa f=>Aa (Ar ?_)))
     obtain rfl:=sj ai
     obtain rfl:=aj _ rfl
     obtain rfl:=sj hd
     exact⟨[(.bool false)],f.g Z,f.d,_,[],(gt ak aB),m,Z,Z⟩
    ·refine Ak f Z aC (An (Aj (Ab f Z λa f=>Ai f Z Z AB λa f=>Ac f Z λa f=>Aa ?_)))
     obtain rfl:=sj ai
     exact⟨_,Z,_,Z,_,(gt ak aB),f.k Z,m⟩
   ·refine Ak f Z al (AE Z ?_)
    obtain rfl:=sj ai
    obtain rfl:=aj _ rfl
    exact⟨_,Z,_,ak,f.weak trivial,m⟩
  ·rintro a w ⟨_,rfl,ad,aD,f,m⟩
   refine Ae (Ac f Z λa f=>Aa (Ar ?_))
   obtain rfl:=sj hd
   exact⟨[(.bool true)],f.g Z,f.d,_,[],aD,m,Z,Z⟩
theorem Wk.Y {v0 v1:Value}{x0 x1:LI}{x2:Int}(m:Mem W G w (H))(h0:R1 G v0 x0)(h1:R1 G v1 x1){y:Bool}(hd:D.Y x0 x1 x2=some y):
  Calls prog 104 #[v0,v1,iv x2] w (Res W G H (λ_ Ho v=>Ho=[]∧v=(.bool y))):=by
 refine Au (args:=[v0,v1,iv x2]) (N:=18) [.tmp 6] func104 Z Z (lb Z) Z λa f=> ?_
 unfold D.Y at hd
 refine Ae (Ac f Z λa f=>AF (Ab f Z λa f=>Ab f Z λa f=>Bd hd λaa ab hd=>A2 f Z call27 (Wk.f m h0 ab) λac w ad m a f=>have h0:=rd1 ad h0;have h1:=rd1 ad h1;l_o f (Bj (f.e Z)) λa f=>Ab f Z λa f=>Bd hd λae af hd=> ?_))
 refine Bk 6 (λa w=>∃ag,GLe ac ag∧Mem W ag w (H)∧Fr a 18 [(0,v0),(1,v1),(2,iv x2),(7,v0),(8,iv x2),(9,(.bool aa)),(10,(.bool (!aa))),(11,(.bool (!aa))),(17,(.bool ae))]) ?_ ?_
 ·rcases Ag af with⟨ah,af⟩|⟨ah,af⟩
  ·refine Ap f ah (Ab f Z λa f=>Ap f ah (Ab f Z λa f=>Ap f ah (Bd af λai aj af=>A9 f Z call25 (Wk.q m h0 aj) λak al am w an m ao a f=> ?_)))
   obtain⟨ap,rfl,rfl,aq⟩:=ao
   refine have h1:=rd1 an h1;Ap f ah (Ab f Z λa f=>Ap f ah (Bd af λar au af=>A2 f Z call105 (Wk.Q m aq h1 au) λav w aw m a f=>l_o f (AK (f.e Z) ah (f.e Z)) λa f=> ?_))
   obtain rfl:=sj af
   exact⟨_,(gt an aw),m,f.k Z⟩
  ·refine Aq f ah λa f=>Aq f ah λa f=>Aq f ah λa f=>Aq f ah λa f=>Aq f ah λa f=>l_o f (AI (f.e Z) ah (f.e Z)) λa f=> ?_
   obtain rfl:=sj af
   exact⟨_,gr,m,f.k Z⟩
 ·rintro a w ⟨ag,ax,m,f⟩
  refine Ac f Z λa f=>Aa (Ar ?_)
  obtain rfl:=sj hd
  exact⟨[(.bool ae)],f.g Z,f.d,_,[],(gt ad ax),m,Z,Z⟩
set_option maxHeartbeats 1000000 in
theorem Wk.i {aa ab ac ad ae:Value}{af:LL}{ag ah:LI}{ai aj:LL}{x2:Int}(m:Mem W G w (H))(ak:R2 G aa af)(al:R1 G ab ag)(am:R1 G ac ah)(an:R2 G ad ai)(ao:R2 G ae aj){y:Bool}(hd:D.i af ag ah ai aj x2=some y):
  Calls prog 41 #[(.agg #[aa]),(.agg #[ab,ac,ad,ae]),iv x2] w (Res W G H (λ_ Ho v=>Ho=[]∧v=(.bool y))):=by
 refine Au (args:=[(.agg #[aa]),(.agg #[ab,ac,ad,ae]),iv x2]) (N:=144) [.tmp 6] func41 Z Z (lb Z) Z λa f=> ?_
 unfold D.i at hd
 refine Ae (A3 (cs:=[aa]) m f Z Z Z λap w a m f=>A3 (cs:=[ab,ac,ad,ae]) m f Z Z Z λaq w a m f=>Ac f Z λa f=>AF (AQ underlying38 Z sizeOf27 f Z λa f=>Ao 0 2 m AW f Z Z Z Z λa f=>Ab f Z λa f=>Bd hd λar au hd=>AX T27 f Z Z Z an au λav aw a ax ay f=>Aw m AY f Z Z ax λa f=>Ac f Z λa f=>AF (AQ underlying38 Z sizeOf27 f Z λa f=>Ao 0 3 m AW f Z Z Z Z λa f=>Ab f Z λa f=>Bd hd λaz aA hd=>AX T27 f Z Z Z ao aA λaB aC a aD aE f=>Aw m AY f Z Z aD λa f=>Ac f Z λa f=>Aa (Ah (Ae (Ab f Z λa f=>AN underlying35 f Z Z ay λa f=>Ai f Z Z CK λa f=>Ab f Z λa f=>Bd hd λaF aG hd=> ?_))))))
 refine Bk 6 (λa w=>∃aH,GLe G aH∧Mem W aH w (ib aq 38 [ab,ac,ad,ae]::ib ap 29 [aa]::H)∧Fr a 144 [(0,(.agg #[aa])),(1,(.agg #[ab,ac,ad,ae])),(2,iv x2),(3,pb ap),(4,pb aq),(7,aw),(8,aC),(20,aw),(21,(iv (ar.length:Int))),(22,(.bool (decide ((8:Int)<(ar.length:Int))))),(23,(.bool (decide ((8:Int)<(ar.length:Int))))),(29,(.bool aF))]) ?_ ?_
 ·rcases Ag aG with⟨aI,aG⟩|⟨aI,aG⟩
  ·refine Aq f aI λa f=>Aq f aI λa f=>Aq f aI λa f=>Aq f aI λa f=>Aq f aI λa f=>l_o f (AK (f.e Z) aI (f.e Z)) λa f=> ?_
   obtain rfl:=sj aG
   exact⟨_,gr,m,f.k Z⟩
  ·refine Ap f aI (Ab f Z λa f=>Ap f aI (Ay 1 0 (ds:=[aa]) m Bh f Z Z Z Z Z λa f=>Ap f aI (Bd aG λaJ aK aG=>A2 f Z call83 (Wk.d m ak aK) λaL w aM m a f=>have ay:=rd1 aM ay;Ap f aI (Bd aG λaN aO aG=>A2 f Z call79 (Wk.A m ay aO) λaP w aQ m a f=>Ap f aI (l_o f (Bj (f.e Z)) λa f=>l_o f (AI (f.e Z) aI (f.e Z)) λa f=> ?_)))))
   obtain rfl:=sj aG
   exact⟨_,(gt aM aQ),m,f.k Z⟩
 ·rintro a w ⟨aH,aR,m,f⟩
  refine have al:=rd1 aR al;have am:=rd1 aR am;have an:=rd2 aR an;have ay:=rd1 aR ay;have aE:=rd1 aR aE;Aa ?_
  rcases Ag hd with⟨aS,hd⟩|⟨aS,hd⟩
  ·refine Am f Z aS (Ae (Ac f Z λa f=>Aa (Ar (have m:=m.dp 2;?_))))
   obtain rfl:=sj hd
   exact⟨[(.bool false)],f.g Z,f.d,_,[],aR,m,Z,Z⟩
  ·refine Ak f Z aS (An (Ah (Ae (Ac f Z λa f=>Aa (Bd hd λaT aU hd=> ?_)))))
   refine AL (λa w=>∃q_97':Unit,aT= .inl q_97'∧∃(aV:GH),GLe aH aV∧Fr a 144 [(2,iv x2),(4,pb aq),(7,aw),(8,aC)]∧Mem W aV w (ib aq 38 [ab,ac,ad,ae]::H)) ?_ ?_
   ·refine Al (have m:=m.eraseAt 1;AM (λaW a w=>∃aX:Int,aX=aW∧∃(aY:GH),GLe aH aY∧Fr a 144 [(2,iv x2),(4,pb aq),(7,aw),(8,aC),(9,iv aX)]∧Mem W aY w (ib aq 38 [ab,ac,ad,ae]::H)) aU ⟨_,Z,_,gr,f.k Z,m⟩ ?_)
    clear aU f m
    rintro aW aZ a0 a1 a w ⟨aX,rfl,aY,a2,f,m⟩
    refine have aE:=rd1 a2 aE;Ah (Ae (Ab f Z λa f=>Ab f Z λa f=>AN underlying35 f Z Z aE λa f=>Ai f Z Z AP λa f=>Aa ?_))
    rcases Ag a0 with⟨a3,a0⟩|⟨a3,a0⟩
    ·refine Am f Z a3 (An (Ah (Al (Ae (Ab f Z λa f=>Ab f Z λa f=>Bd a0 λa4 a5 a0=>AX T35 f Z Z Z aE a5 λa6 a7 a a8 a9 f=> ?_)))))
     subst a9
     refine Aw m Pl2 f Z Z a8 λa f=>Ab f Z λa f=>Ai f Z Z CA λa f=>Bd a0 λba bb a0=>A2 f Z call75 (Wk.b m bb) λbc w bd m a f=>l_o f (Bj (f.e Z)) λa f=>Aa ?_
     rcases Ag a0 with⟨be,a0⟩|⟨be,a0⟩
     ·refine Am f Z be (Ae (Ac f Z λa f=>Aa (Ar (have m:=m.dp 1;?_))))
      obtain rfl:=sj a0
      obtain rfl:=a1 _ rfl
      obtain rfl:=sj hd
      exact⟨[(.bool false)],f.g Z,f.d,_,[],(gt aR (gt a2 bd)),m,Z,Z⟩
     ·refine Ak f Z be (An (Aj (Ab f Z λa f=>Ai f Z Z AB λa f=>Ac f Z λa f=>Aa ?_)))
      obtain rfl:=sj a0
      exact⟨_,Z,_,Z,_,(gt a2 bd),f.k Z,m⟩
    ·refine Ak f Z a3 (AE Z ?_)
     obtain rfl:=sj a0
     obtain rfl:=a1 _ rfl
     exact⟨_,Z,_,a2,f.k Z,m⟩
   ·rintro a w ⟨_,rfl,aV,bf,f,m⟩
    refine have ay:=rd1 bf ay;have aE:=rd1 bf aE;have al:=rd1 bf al;have am:=rd1 bf am;have an:=rd2 bf an;Ah (Ae (AQ underlying38 Z sizeOf35 f Z λa f=>Ao 0 0 m AY f Z Z Z Z λa f=>Ab f Z λa f=>Bd hd λbg bh hd=>AX T35 f Z Z Z al bh λbi bj a bk bl f=> ?_))
    subst bl
    refine Aw m Pl2 f Z Z bk λa f=>Aa (Al (Ae (Ai f Z Z Bf λa f=>Ac f Z λa f=>Aa ?_)))
    rcases Ag hd with⟨bm,hd⟩|⟨bm,hd⟩
    ·refine Am f Z bm (Ae (AQ underlying38 Z sizeOf35 f Z λa f=>Ao 0 1 m AY f Z Z Z Z λa f=>Ab f Z λa f=>Bd hd λbn bo hd=>AX T35 f Z Z Z am bo λbp bq a br bs f=> ?_))
     subst bs
     refine Aw m Pl2 f Z Z br λa f=>Ai f Z Z Bf λa f=>Ab f Z λa f=> ?_
     refine Bk 4 (λa w=>∃bt,GLe aV bt∧Mem W bt w (ib aq 38 [ab,ac,ad,ae]::H)∧Fr a 144 [(2,iv x2),(4,pb aq),(7,aw),(8,aC),(48,iv bg),(49,(.bool (bg==1))),(51,(.pointer (some ⟨aq,1,none⟩))),(52,ac),(53,iv x2),(54,bp),(55,iv bn),(56,(.bool (bn==(-1)))),(57,(.bool (bn==(-1)))),(61,(.bool ((bn==(-1))&&((ar.length:Int)==0))))]) ?_ ?_
     ·rcases Bool.eq_false_or_eq_true (bn==(-1)) with bu|bu
      ·exact Ap f bu (Ab f Z λa f=>Ap f bu (AN underlying35 f Z Z ay λa f=>Ap f bu (Ai f Z Z Bf λa f=>l_o f (AK (f.e Z) bu (f.e Z)) λa f=>⟨_,gr,m,f.weak ⟨Z,Z,Z,Z,Z,Z,Z,Z,Z,Z,Z,Z,Z,by rw[bu];rfl,trivial⟩⟩)))
      ·exact Aq f bu λa f=>Aq f bu λa f=>Aq f bu λa f=>l_o f (AI (f.e Z) bu (f.e Z)) λa f=>⟨_,gr,m,f.weak ⟨Z,Z,Z,Z,Z,Z,Z,Z,Z,Z,Z,Z,Z,by rw[bu];rfl,trivial⟩⟩
     ·rintro a w ⟨bt,bv,m,f⟩
      refine have aE:=rd1 bv aE;Ab f Z λa f=> ?_
      refine Bk 4 (λa w=>∃bw,GLe bt bw∧Mem W bw w (ib aq 38 [ab,ac,ad,ae]::H)∧Fr a 144 [(2,iv x2),(4,pb aq),(7,aw),(8,aC),(48,iv bg),(49,(.bool (bg==1))),(51,(.pointer (some ⟨aq,1,none⟩))),(52,ac),(53,iv x2),(54,bp),(55,iv bn),(56,(.bool (bn==(-1)))),(57,(.bool (bn==(-1)))),(61,(.bool ((bn==(-1))&&((ar.length:Int)==0)))),(62,(.bool ((bn==(-1))&&((ar.length:Int)==0)))),(66,(.bool (((bn==(-1))&&((ar.length:Int)==0))&&((az.length:Int)==0))))]) ?_ ?_
      ·rcases Bool.eq_false_or_eq_true ((bn==(-1))&&((ar.length:Int)==0)) with bx|bx
       ·exact Ap f bx (Ab f Z λa f=>Ap f bx (AN underlying35 f Z Z aE λa f=>Ap f bx (Ai f Z Z Bf λa f=>l_o f (AK (f.e Z) bx (f.e Z)) λa f=>⟨_,gr,m,f.weak ⟨Z,Z,Z,Z,Z,Z,Z,Z,Z,Z,Z,Z,Z,Z,Z,by rw[bx];rfl,trivial⟩⟩)))
       ·exact Aq f bx λa f=>Aq f bx λa f=>Aq f bx λa f=>l_o f (AI (f.e Z) bx (f.e Z)) λa f=>⟨_,gr,m,f.weak ⟨Z,Z,Z,Z,Z,Z,Z,Z,Z,Z,Z,Z,Z,Z,Z,by rw[bx];rfl,trivial⟩⟩
      ·rintro a w ⟨bw,bz,m,f⟩
       refine Ac f Z λa f=>Aa (Ar (have m:=m.dp 1;?_))
       obtain rfl:=sj hd
       exact⟨[(.bool (((bn==(-1))&&((ar.length:Int)==0))&&((az.length:Int)==0)))],f.g Z,f.d,_,[],(gt aR (gt bf (gt bv bz))),m,Z,Z⟩
    ·refine Ak f Z bm (Ae (Ai f Z Z Bf λa f=>Ac f Z λa f=>Aa ?_))
     rcases Ag hd with⟨bA,hd⟩|⟨bA,hd⟩
     ·refine Am f Z bA (Ah (Bg 20 AV (by kernel_rfl) m (As 0 20 Z f Z λa f=>DR (i:=1) 20 underlying35 aE Z (by kernel_rfl) Z f Z Z Z λa f=>q_p 2 20 Z f (λ_=>BB (f.e Z) (f.e Z) Bf) λa f=>As 3 20 Z f Z λa f=>Bd hd λbB bC hd=>CW (fuel':=1) (listed':= #[true,true,true,true,true,true,true,true,true,true,true,true,true,true,true,true,true,true,true,false]) (λa=>Fr a 144 [(2,iv x2),(4,pb aq),(7,aw),(8,aC),(48,iv bg),(67,(.bool (bg==2))),(69,aC),(70,(iv (az.length:Int))),(71,(.bool ((az.length:Int)==1))),(72,(.bool ((az.length:Int)==1))),(87,(.bool bB))]) ?_ ?_)))
      ·intro a f
       refine q_p 19 20 Z f (λ_=>Bq (f.e Z)) λa f=>A4 λbD w bE m=>Aa (Ar (have m:=m.dp 1;?_))
       obtain rfl:=sj hd
       exact⟨[(.bool bB)],f.g Z,f.d,_,[],(gt aR (gt bf bE)),m,Z,Z⟩
      ·intro bF
       rcases Ag bC with⟨bG,bC⟩|⟨bG,bC⟩
       ·refine Br (hw:=wo f bG) 4 20 underlying38 Z sizeOf27 Z f Z λa f=>Bo (hw:=wo f bG) 5 20 0 AW Z Z Z f Z λa f=>As (hw:=wo f bG) 6 20 Z f Z λa f=>Bd bC λbH bI bC=>Bb (hw:=wo f bG) 7 20 T35 aE bI Z f Z Z λbJ bK a bL bM f=> ?_
        subst bM
        refine Ba (hw:=wo f bG) 8 20 Pl2 bL Z f Z λa f=>Bd bC λbN bO bC=>Bb (hw:=wo f bG) 9 20 T27 an bO Z f Z Z λbP bQ a bR bS f=>Ba (hw:=wo f bG) 10 20 AY bR Z f Z λa f=>As (hw:=wo f bG) 11 20 Z f Z λa f=>Br (hw:=wo f bG) 12 20 underlying38 Z sizeOf35 Z f Z λa f=>Bo (hw:=wo f bG) 13 20 0 AY Z Z Z f Z λa f=>As (hw:=wo f bG) 14 20 Z f Z λa f=>Bd bC λbT bU bC=>Bb (hw:=wo f bG) 15 20 T35 am bU Z f Z Z λbV bW a bX bY f=> ?_
        subst bY
        refine Ba (hw:=wo f bG) 16 20 Pl2 bX Z f Z λa f=>Bd bC λbZ b0 bC=>B4 (i:=17) 20 Z (by kernel_rfl) Z f (Bs f Z Z Z bG) Z Z call104 (λ_ _ w b1 m=>Wk.Y m (rd1 b1 bS) (rd1 b1 ay) b0) λa f=>q_p 18 20 Z f (λ_=>AK (f.e Z) bG (f.e Z)) λa f=> ?_
        obtain rfl:=sj bC
        exact bF _ (f.k Z)
       ·refine AA 4 20 Z f bG λa f=>AA 5 20 Z f bG λa f=>AA 6 20 Z f bG λa f=>AA 7 20 Z f bG λa f=>AA 8 20 Z f bG λa f=>AA 9 20 Z f bG λa f=>AA 10 20 Z f bG λa f=>AA 11 20 Z f bG λa f=>AA 12 20 Z f bG λa f=>AA 13 20 Z f bG λa f=>AA 14 20 Z f bG λa f=>AA 15 20 Z f bG λa f=>AA 16 20 Z f bG λa f=>AA 17 20 Z f bG λa f=>q_p 18 20 Z f (λ_=>AI (f.e Z) bG (f.e Z)) λa f=> ?_
        obtain rfl:=sj bC
        exact bF _ (f.k Z)
     ·refine Ak f Z bA (Ae (Ai f Z Z Bf λa f=>Ac f Z λa f=>Aa ?_))
      rcases Ag hd with⟨b2,hd⟩|⟨b2,hd⟩
      ·refine Am f Z b2 (Ah (Bg 20 AV (by kernel_rfl) m (As 0 20 Z f Z λa f=>DR (i:=1) 20 underlying35 aE Z (by kernel_rfl) Z f Z Z Z λa f=>q_p 2 20 Z f (λ_=>BB (f.e Z) (f.e Z) Bf) λa f=>As 3 20 Z f Z λa f=>Bd hd λb3 b4 hd=>CW (fuel':=1) (listed':= #[true,true,true,true,true,true,true,true,true,true,true,true,true,true,true,true,true,true,true,false]) (λa=>Fr a 144 [(2,iv x2),(4,pb aq),(7,aw),(8,aC),(48,iv bg),(88,(.bool (bg==3))),(90,aC),(91,(iv (az.length:Int))),(92,(.bool ((az.length:Int)==1))),(93,(.bool ((az.length:Int)==1))),(108,(.bool b3))]) ?_ ?_)))
       ·intro a f
        refine q_p 19 20 Z f (λ_=>Bq (f.e Z)) λa f=>A4 λb5 w b6 m=>Aa (Ar (have m:=m.dp 1;?_))
        obtain rfl:=sj hd
        exact⟨[(.bool b3)],f.g Z,f.d,_,[],(gt aR (gt bf b6)),m,Z,Z⟩
       ·intro b7
        rcases Ag b4 with⟨b8,b4⟩|⟨b8,b4⟩
        ·refine As (hw:=wo f b8) 4 20 Z f Z λa f=>Br (hw:=wo f b8) 5 20 underlying38 Z sizeOf27 Z f Z λa f=>Bo (hw:=wo f b8) 6 20 0 AW Z Z Z f Z λa f=>As (hw:=wo f b8) 7 20 Z f Z λa f=>Bd b4 λb9 ca b4=>Bb (hw:=wo f b8) 8 20 T35 aE ca Z f Z Z λcb cc a cd ce f=> ?_
         subst ce
         refine Ba (hw:=wo f b8) 9 20 Pl2 cd Z f Z λa f=>Bd b4 λcf cg b4=>Bb (hw:=wo f b8) 10 20 T27 an cg Z f Z Z λch ci a cj ck f=>Ba (hw:=wo f b8) 11 20 AY cj Z f Z λa f=>Br (hw:=wo f b8) 12 20 underlying38 Z sizeOf35 Z f Z λa f=>Bo (hw:=wo f b8) 13 20 0 AY Z Z Z f Z λa f=>As (hw:=wo f b8) 14 20 Z f Z λa f=>Bd b4 λcl cm b4=>Bb (hw:=wo f b8) 15 20 T35 am cm Z f Z Z λcn co a cp cq f=> ?_
         subst cq
         refine Ba (hw:=wo f b8) 16 20 Pl2 cp Z f Z λa f=>Bd b4 λcr ct b4=>B4 (i:=17) 20 Z (by kernel_rfl) Z f (Bs f Z Z Z b8) Z Z call104 (λ_ _ w cu m=>Wk.Y m (rd1 cu ay) (rd1 cu ck) ct) λa f=>q_p 18 20 Z f (λ_=>AK (f.e Z) b8 (f.e Z)) λa f=> ?_
         obtain rfl:=sj b4
         exact b7 _ (f.k Z)
        ·refine AA 4 20 Z f b8 λa f=>AA 5 20 Z f b8 λa f=>AA 6 20 Z f b8 λa f=>AA 7 20 Z f b8 λa f=>AA 8 20 Z f b8 λa f=>AA 9 20 Z f b8 λa f=>AA 10 20 Z f b8 λa f=>AA 11 20 Z f b8 λa f=>AA 12 20 Z f b8 λa f=>AA 13 20 Z f b8 λa f=>AA 14 20 Z f b8 λa f=>AA 15 20 Z f b8 λa f=>AA 16 20 Z f b8 λa f=>AA 17 20 Z f b8 λa f=>q_p 18 20 Z f (λ_=>AI (f.e Z) b8 (f.e Z)) λa f=> ?_
         obtain rfl:=sj b4
         exact b7 _ (f.k Z)
      ·refine Ak f Z b2 (Ae (Ai f Z Z Bf λa f=>Ac f Z λa f=>Aa ?_))
       rcases Ag hd with⟨cv,hd⟩|⟨cv,hd⟩
       ·refine Am f Z cv (Ah (Bg 34 AV (by kernel_rfl) m (Br 0 34 underlying38 Z sizeOf35 Z f Z λa f=>Bo 1 34 0 AY Z Z Z f Z λa f=>As 2 34 Z f Z λa f=>Bd hd λcw cx hd=>Bb 3 34 T35 am cx Z f Z Z λcy cz a cA cB f=> ?_)))
        subst cB
        refine Ba 4 34 Pl2 cA Z f Z λa f=>q_p 5 34 Z f (λ_=>BB (f.e Z) (f.e Z) Bf) λa f=>As 6 34 Z f Z λa f=>CW (fuel':=23) (listed':= #[true,true,true,true,true,true,true,true,true,true,true,false,false,false,false,false,false,false,false,false,false,false,false,false,false,false,false,false,false,false,false,false,false,false]) (λa=>Fr a 144 [(2,iv x2),(4,pb aq),(7,aw),(8,aC),(109,(.bool (bg==4))),(111,(.pointer (some ⟨aq,1,none⟩))),(112,ac),(113,iv x2),(114,cy),(115,iv cw),(116,(.bool (cw==(-1)))),(117,(.bool (cw==(-1)))),(121,(.bool ((cw==(-1))&&((az.length:Int)==2))))]) ?_ ?_
        ·intro a f
         refine As 11 34 Z f Z λa f=>Bd hd λcC cD hd=>CW (fuel':=12) (listed':= #[true,true,true,true,true,true,true,true,true,true,true,true,true,true,true,true,true,true,true,true,true,true,false,false,false,false,false,false,false,false,false,false,false,false]) (λa=>Fr a 144 [(2,iv x2),(4,pb aq),(7,aw),(8,aC),(109,(.bool (bg==4))),(111,(.pointer (some ⟨aq,1,none⟩))),(112,ac),(113,iv x2),(114,cy),(115,iv cw),(116,(.bool (cw==(-1)))),(117,(.bool (cw==(-1)))),(121,(.bool ((cw==(-1))&&((az.length:Int)==2)))),(122,(.bool ((cw==(-1))&&((az.length:Int)==2)))),(132,(.bool cC))]) ?_ ?_
         ·intro a f
          refine As 22 34 Z f Z λa f=>Bd hd λcE cF hd=>CW (fuel':=1) (listed':= #[true,true,true,true,true,true,true,true,true,true,true,true,true,true,true,true,true,true,true,true,true,true,true,true,true,true,true,true,true,true,true,true,true,false]) (λa=>Fr a 144 [(2,iv x2),(4,pb aq),(7,aw),(8,aC),(109,(.bool (bg==4))),(111,(.pointer (some ⟨aq,1,none⟩))),(112,ac),(113,iv x2),(114,cy),(115,iv cw),(116,(.bool (cw==(-1)))),(117,(.bool (cw==(-1)))),(121,(.bool ((cw==(-1))&&((az.length:Int)==2)))),(122,(.bool ((cw==(-1))&&((az.length:Int)==2)))),(132,(.bool cC)),(133,(.bool cC)),(143,(.bool cE))]) ?_ ?_
          ·intro a f
           refine q_p 33 34 Z f (λ_=>Bq (f.e Z)) λa f=>A4 λcG w cH m=>Aa (Ar (have m:=m.dp 1;?_))
           obtain rfl:=sj hd
           exact⟨[(.bool cE)],f.g Z,f.d,_,[],(gt aR (gt bf cH)),m,Z,Z⟩
          ·intro cI
           rcases Ag cF with⟨cJ,cF⟩|⟨cJ,cF⟩
           ·refine Br (hw:=wo f cJ) 23 34 underlying38 Z sizeOf27 Z f Z λa f=>Bo (hw:=wo f cJ) 24 34 0 AW Z Z Z f Z λa f=>As (hw:=wo f cJ) 25 34 Z f Z λa f=>Bd cF λcK cL cF=>Bb (hw:=wo f cJ) 26 34 T35 aE cL Z f Z Z λcM cN a cO cP f=> ?_
            subst cP
            refine Ba (hw:=wo f cJ) 27 34 Pl2 cO Z f Z λa f=>Bd cF λcQ cR cF=>Bb (hw:=wo f cJ) 28 34 T27 an cR Z f Z Z λcS cT a cU cV f=>Ba (hw:=wo f cJ) 29 34 AY cU Z f Z λa f=>As (hw:=wo f cJ) 30 34 Z f Z λa f=>Bd cF λcW cX cF=>B4 (i:=31) 34 Z (by kernel_rfl) Z f (Bs f Z Z Z cJ) Z Z call105 (λ_ _ w cY m=>Wk.Q m (rd1 cY cV) (rd1 cY ay) cX) λa f=>q_p 32 34 Z f (λ_=>AK (f.e Z) cJ (f.e Z)) λa f=> ?_
            obtain rfl:=sj cF
            exact cI _ (f.k Z)
           ·refine AA 23 34 Z f cJ λa f=>AA 24 34 Z f cJ λa f=>AA 25 34 Z f cJ λa f=>AA 26 34 Z f cJ λa f=>AA 27 34 Z f cJ λa f=>AA 28 34 Z f cJ λa f=>AA 29 34 Z f cJ λa f=>AA 30 34 Z f cJ λa f=>AA 31 34 Z f cJ λa f=>q_p 32 34 Z f (λ_=>AI (f.e Z) cJ (f.e Z)) λa f=> ?_
            obtain rfl:=sj cF
            exact cI _ (f.k Z)
         ·intro cZ
          rcases Ag cD with⟨c0,cD⟩|⟨c0,cD⟩
          ·refine Br (hw:=wo f c0) 12 34 underlying38 Z sizeOf27 Z f Z λa f=>Bo (hw:=wo f c0) 13 34 0 AW Z Z Z f Z λa f=>As (hw:=wo f c0) 14 34 Z f Z λa f=>Bd cD λc1 c2 cD=>Bb (hw:=wo f c0) 15 34 T35 aE c2 Z f Z Z λc3 c4 a c5 c6 f=> ?_
           subst c6
           refine Ba (hw:=wo f c0) 16 34 Pl2 c5 Z f Z λa f=>Bd cD λc7 c8 cD=>Bb (hw:=wo f c0) 17 34 T27 an c8 Z f Z Z λc9 da a db dc f=>Ba (hw:=wo f c0) 18 34 AY db Z f Z λa f=>As (hw:=wo f c0) 19 34 Z f Z λa f=>Bd cD λdd de cD=>B4 (i:=20) 34 Z (by kernel_rfl) Z f (Bs f Z Z Z c0) Z Z call105 (λ_ _ w df m=>Wk.Q m (rd1 df dc) (rd1 df ay) de) λa f=>q_p 21 34 Z f (λ_=>AK (f.e Z) c0 (f.e Z)) λa f=> ?_
           obtain rfl:=sj cD
           exact cZ _ (f.k Z)
          ·refine AA 12 34 Z f c0 λa f=>AA 13 34 Z f c0 λa f=>AA 14 34 Z f c0 λa f=>AA 15 34 Z f c0 λa f=>AA 16 34 Z f c0 λa f=>AA 17 34 Z f c0 λa f=>AA 18 34 Z f c0 λa f=>AA 19 34 Z f c0 λa f=>AA 20 34 Z f c0 λa f=>q_p 21 34 Z f (λ_=>AI (f.e Z) c0 (f.e Z)) λa f=> ?_
           obtain rfl:=sj cD
           exact cZ _ (f.k Z)
        ·intro dg
         rcases Bool.eq_false_or_eq_true (cw==(-1)) with dh|dh
         ·exact As (hw:=wo f dh) 7 34 Z f Z λa f=>DR (i:=8) 34 underlying35 aE Z (by kernel_rfl) Z f (Bs f Z Z Z dh) Z Z λa f=>q_p (hw:=wo f dh) 9 34 Z f (λ_=>BB (f.e Z) (f.e Z) Bf) λa f=>q_p 10 34 Z f (λ_=>AK (f.e Z) dh (f.e Z)) λa f=>dg _ (f.weak ⟨Z,Z,Z,Z,Z,Z,Z,Z,Z,Z,Z,Z,by rw[dh];rfl,trivial⟩)
         ·exact AA 7 34 Z f dh λa f=>AA 8 34 Z f dh λa f=>AA 9 34 Z f dh λa f=>q_p 10 34 Z f (λ_=>AI (f.e Z) dh (f.e Z)) λa f=>dg _ (f.weak ⟨Z,Z,Z,Z,Z,Z,Z,Z,Z,Z,Z,Z,by rw[dh];rfl,trivial⟩)
       ·refine Ak f Z cv (An (Ae (Ac f Z λa f=>Aa (Ar (have m:=m.dp 1;?_)))))
        obtain rfl:=sj hd
        exact⟨[(.bool false)],f.g Z,f.d,_,[],(gt aR bf),m,Z,Z⟩
theorem Wk.h1 {aa ab ac ad:Value}{ae af:LI}{ag ah:LL}(m:Mem W G w (H))(ai:R1 G aa ae)(aj:R1 G ab af)(ak:R2 G ac ag)(al:R2 G ad ah){y:Bool}(hd:D.h1 ae af ag ah=some y):
  Calls prog 42 #[(.agg #[aa,ab,ac,ad])] w (Res W G H (λ_ Ho v=>Ho=[]∧v=(.bool y))):=by
 refine Au (args:=[(.agg #[aa,ab,ac,ad])]) (N:=53) [.tmp 2] func42 Z Z (lb Z) Z λa f=> ?_
 unfold D.h1 at hd
 refine Ae (A3 (cs:=[aa,ab,ac,ad]) m f Z Z Z λam w a m f=>Ac f Z λa f=>AF (AQ underlying38 Z sizeOf35 f Z λa f=>Ao 0 0 m AY f Z Z Z Z λa f=>AN underlying35 f Z Z ai λa f=>Bd hd λan ao hd=>Cy (R:=R0) m T35 Z (by decide) Z f Z Z Z ao λap aq w a m ar f=>Ac f Z λa f=>Aa (Ah (Ae (Ac f Z λa f=>Aa (Bd hd λau av hd=> ?_))))))
 refine AL (λa w=>∃aw:LI,aw=au∧∃(ax:GH) (ay:Itm),GLe G ax∧Fr a 53 [(3,aq)]∧Mem W ax w (ay::H)∧Ow R0 2 ax ay aq aw) ?_ ?_
 ·refine Al (have m:=m.fr 1;AM (λaz a w=>∃aA:LI,∃aB:Int,(aA,aB)=az∧∃(aC:GH) (aD:Itm),GLe G aC∧Fr a 53 [(1,pb am),(3,aq),(4,iv aB)]∧Mem W aC w (ib am 38 [aa,ab,ac,ad]::aD::H)∧Ow R0 2 aC aD aq aA) av ⟨_,_,Z,_,ap,gr,f.k Z,m,ar⟩ ?_)
  clear av f m
  rintro az aE aF aG a w ⟨aA,aB,rfl,aC,aD,aH,f,m,aI⟩
  refine have al:=rd2 aH al;Ah (Ae (Ab f Z λa f=>AQ underlying38 Z sizeOf27 f Z λa f=>Ao 0 3 m AW f Z Z Z Z λa f=>AN underlying27 f Z Z al λa f=>Ai f Z Z AP λa f=>Aa ?_))
  rcases Ag aF with⟨aJ,aF⟩|⟨aJ,aF⟩
  ·refine Am f Z aJ (An (Ah (Al (Ae (Ac f Z λa f=>Aa (Bd aF λaK aL aF=> ?_))))))
   refine AL (λa w=>∃aM:LI,aM=aK∧∃(aN:GH) (aO:Itm),GLe aC aN∧Fr a 53 [(1,pb am),(3,aq),(4,iv aB)]∧Mem W aN w (ib am 38 [aa,ab,ac,ad]::aO::H)∧Ow R0 2 aN aO aq aM) ?_ ?_
   ·refine Al (AM (λaP a w=>∃aQ:LI,∃aR:Int,(aQ,aR)=aP∧∃(aS:GH) (aT:Itm),GLe aC aS∧Fr a 53 [(1,pb am),(3,aq),(4,iv aB),(5,iv aR)]∧Mem W aS w (ib am 38 [aa,ab,ac,ad]::aT::H)∧Ow R0 2 aS aT aq aQ) aL ⟨_,_,Z,_,aD,gr,f.k Z,m,aI⟩ ?_)
    clear aL f m
    rintro aP aU aV aW a w ⟨aQ,aR,rfl,aS,aT,aX,f,m,aY⟩
    refine have al:=rd2 aX al;Ah (Ae (Ab f Z λa f=>AQ underlying38 Z sizeOf27 f Z λa f=>Ao 0 3 m AW f Z Z Z Z λa f=>Ab f Z λa f=>Bd aV λaZ a0 aV=>AX T27 f Z Z Z al a0 λa1 a2 a a3 a4 f=>Aw m AY f Z Z a3 λa f=>AN underlying35 f Z Z a4 λa f=>Ai f Z Z AP λa f=>Aa ?_))
    rcases Ag aV with⟨a5,aV⟩|⟨a5,aV⟩
    ·refine Am f Z a5 (An (Ah (Al (Aj (Ab f Z λa f=>AQ underlying38 Z sizeOf27 f Z λa f=>Ao 0 3 m AW f Z Z Z Z λa f=>Ab f Z λa f=>Bd aV λa6 a7 aV=>AX T27 f Z Z Z al a7 λa8 a9 a ba bb f=>Aw m AY f Z Z ba λa f=>Ab f Z λa f=>Bd aV λbc bd aV=>AX T35 f Z Z Z bb bd λbe bf a bg bh f=> ?_)))))
     subst bh
     refine Aw m Pl2 f Z Z bg λa f=>Bd aV λbi bj aV=>Bm 1 m aY Z T35 f Z Z Z bj λbk a bl f=>Bl 1 m aY Z Pl2 f Z Z bl bj λbm a bn f=> ?_
     subst bn
     refine Ai f Z Z AB λa f=>Bd aV λbo bp aV=>Bm 1 m aY Z T35 f Z Z Z bp λbq a br f=>Ci 1 m aY Z sizeOf2 f Z Z br bp Z Z Z λbs w m bt=>Aa (Aj (Ab f Z λa f=>Ai f Z Z AB λa f=>Ac f Z λa f=>Aa ?_))
     obtain rfl:=sj aV
     exact⟨_,Z,_,_,Z,_,bs,aX,f.k Z,m,bt⟩
    ·refine Ak f Z a5 (AE Z ?_)
     obtain rfl:=sj aV
     obtain rfl:=aW _ rfl
     exact⟨_,Z,_,aT,aX,f.k Z,m,aY⟩
   ·rintro a w ⟨aM,rfl,aN,aO,bu,f,m,bv⟩
    refine Aj (Ab f Z λa f=>Ai f Z Z AB λa f=>Ac f Z λa f=>Aa ?_)
    obtain rfl:=sj aF
    exact⟨_,Z,_,_,Z,_,aO,(gt aH bu),f.k Z,m,bv⟩
  ·refine Ak f Z aJ (AE Z (have m:=m.fr 1;have m:=m.eraseAt 1;?_))
   obtain rfl:=sj aF
   obtain rfl:=aG _ rfl
   exact⟨_,Z,_,aD,aH,f.k Z,m,aI⟩
 ·rintro a w ⟨aw,rfl,ax,ay,bw,f,m,bx⟩
  refine Ah (Ae (Ac f Z λa f=>Aa (Bd hd λbz bA hd=> ?_)))
  refine AL (λa w=>∃q_637':Unit,bz= .inl q_637'∧∃(bB:GH),GLe ax bB∧Fr a 53 []∧Mem W bB w (H)) ?_ ?_
  ·refine Al (AM (λbC a w=>∃bD:Int,bD=bC∧∃(bE:GH),GLe ax bE∧Fr a 53 [(3,aq),(6,iv bD)]∧Mem W bE w (ay::H)) bA ⟨_,Z,_,gr,f.k Z,m⟩ ?_)
   clear bA f m
   rintro bC bF bG bH a w ⟨bD,rfl,bE,bI,f,m⟩
   refine have bx:=od1 bI bx;Ah (Ae (Ab f Z λa f=>Ai f Z Z AB λa f=>Ab f Z λa f=>BH 0 m bx Z underlying35 f Z Z λa f=>Ai f Z Z AP λa f=>Aa ?_))
   rcases Ag bG with⟨bJ,bG⟩|⟨bJ,bG⟩
   ·refine Am f Z bJ (An (Ah (Al (Ae (Ab f Z λa f=>Ab f Z λa f=>Bd bG λbK bL bG=>Bm 0 m bx Z T35 f Z Z Z bL λbM a bN f=>Bl 0 m bx Z Pl2 f Z Z bN bL λbO a bP f=> ?_)))))
    subst bP
    refine Ai f Z Z Cw λa f=>Aa ?_
    rcases Ag bG with⟨bQ,bG⟩|⟨bQ,bG⟩
    ·refine Am f Z bQ (Ae (Ac f Z λa f=>Aa (Ar (have m:=m.dp 1;?_))))
     obtain rfl:=sj bG
     obtain rfl:=bH _ rfl
     obtain rfl:=sj hd
     exact⟨[(.bool false)],f.g Z,f.d,_,[],(gt bw bI),m,Z,Z⟩
    ·refine Ak f Z bQ (An (Aj (Ab f Z λa f=>Ai f Z Z AB λa f=>Ac f Z λa f=>Aa ?_)))
     obtain rfl:=sj bG
     exact⟨_,Z,_,Z,_,bI,f.k Z,m⟩
   ·refine Ak f Z bJ (AE Z (have m:=m.dp 1;?_))
    obtain rfl:=sj bG
    obtain rfl:=bH _ rfl
    exact⟨_,Z,_,bI,f.weak trivial,m⟩
  ·rintro a w ⟨_,rfl,bB,bR,f,m⟩
   refine Ae (Ac f Z λa f=>Aa (Ar ?_))
   obtain rfl:=sj hd
   exact⟨[(.bool true)],f.g Z,f.d,_,[],(gt bw bR),m,Z,Z⟩
theorem Wk.l0 {v0:Value}{x0:LI}(m:Mem W G w (H))(h0:R1 G v0 x0){y:Int}(hd:D.l0 x0=some y):
  Calls prog 106 #[v0] w (Res W G H (λ_ Ho v=>Ho=[]∧v=(iv y))):=by
 refine Au (args:=[v0]) (N:=20) [.tmp 2] func106 Z Z (lb Z) Z λa f=> ?_
 unfold D.l0 at hd
 refine Ae (Ac f Z λa f=>AF (Ac f Z λa f=>Aa (Ah (Ae (Ac f Z λa f=>Aa (Bd hd λaa ab hd=> ?_))))))
 refine AL (λa w=>∃ac:Int,ac=aa∧∃(ad:GH),GLe G ad∧Fr a 20 [(3,iv ac)]∧Mem W ad w (H)) ?_ ?_
 ·refine Al (AM (λae a w=>∃af:Int,∃ag:Int,(af,ag)=ae∧∃(ah:GH),GLe G ah∧Fr a 20 [(0,v0),(3,iv af),(4,iv ag)]∧Mem W ah w (H)) ab ⟨_,_,Z,_,gr,f.k Z,m⟩ ?_)
  clear ab f m
  rintro ae ai aj ak a w ⟨af,ag,rfl,ah,al,f,m⟩
  refine have h0:=rd1 al h0;Ah (Ae (Ab f Z λa f=>Ab f Z λa f=>AN underlying35 f Z Z h0 λa f=>Ai f Z Z AP λa f=>Aa ?_))
  rcases Ag aj with⟨am,aj⟩|⟨am,aj⟩
  ·refine Am f Z am (An (Ah (Al (Aj (Ab f Z λa f=>Ab f Z λa f=>Ab f Z λa f=>Bd aj λan ao aj=>AX T35 f Z Z Z h0 ao λap aq a ar au f=> ?_)))))
   subst au
   refine Aw m Pl2 f Z Z ar λa f=>l_o f (C6 (f.e Z) ⟨_,underlying2⟩ underlying88) λa f=> ?_
   obtain⟨av,aj⟩:=CL aj
   refine l_o f (r_shl (f.e Z) (f.e Z) av) λa f=>Ai f Z Z EK λa f=>Ac f Z λa f=>Aa (Aj (Ab f Z λa f=>Ai f Z Z AB λa f=>Ac f Z λa f=>Aa ?_))
   obtain rfl:=sj aj
   exact⟨_,Z,_,_,Z,_,al,f.k Z,m⟩
  ·refine Ak f Z am (AE Z ?_)
   obtain rfl:=sj aj
   obtain rfl:=ak _ rfl
   exact⟨_,Z,_,al,f.k Z,m⟩
 ·rintro a w ⟨ac,rfl,ad,aw,f,m⟩
  refine Ae (Ab f Z λa f=>Ac f Z λa f=>Aa (Ar ?_))
  obtain rfl:=sj hd
  exact⟨[iv ac],f.g Z,f.d,_,[],aw,m,Z,Z⟩
theorem Wk.m {aa:Value}{ab:LL}(m:Mem W G w (H))(ac:R2 G aa ab){y:(LI)}(hd:D.m ab=some y):
  Calls prog 52 #[(.agg #[aa])] w (Res W G H (λG' Ho v=>∃r0:Value,∃i0:Itm,Ho=[i0]∧r0=v∧Ow R0 2 G' i0 r0 y)):=by
 refine Au (args:=[(.agg #[aa])]) (N:=42) [.tmp 2] func52 Z Z (lb Z) Z λa f=> ?_
 unfold D.m at hd
 refine Ae (A3 (cs:=[aa]) m f Z Z Z λad w a m f=>Ac f Z λa f=>AF (AO (R:=R0) (xs:=([]:LI)) (RI.one _) m T35 f Z Z Z (by decide) (All2.nil _) λae af w a m ag f=>Ac f Z λa f=>Aa (Ah (Ae (Ac f Z λa f=>Aa (Bd hd λah ai hd=> ?_))))))
 refine AL (λa w=>∃aj:LI,aj=ah∧∃(ak:GH) (al:Value) (am:Itm),GLe G ak∧Fr a 42 [(3,al)]∧Mem W ak w (am::H)∧Ow R0 2 ak am al aj) ?_ ?_
 ·refine Al (have m:=m.fr 1;AM (λan a w=>∃ao:LI,∃ap:Int,(ao,ap)=an∧∃(aq:GH) (ar:Value) (au:Itm),GLe G aq∧Fr a 42 [(1,pb ad),(3,ar),(4,iv ap)]∧Mem W aq w (ib ad 29 [aa]::au::H)∧Ow R0 2 aq au ar ao) ai ⟨_,_,Z,_,af,ae,gr,f.k Z,m,ag⟩ ?_)
  clear ai f m
  rintro an av aw ax a w ⟨ao,ap,rfl,aq,ar,au,ay,f,m,az⟩
  refine have ac:=rd2 ay ac;Ah (Ae (Ab f Z λa f=>AQ underlying29 Z sizeOf27 f Z λa f=>Ao 0 0 m AW f Z Z Z Z λa f=>AN underlying27 f Z Z ac λa f=>Ai f Z Z AP λa f=>Aa ?_))
  rcases Ag aw with⟨aA,aw⟩|⟨aA,aw⟩
  ·refine Am f Z aA (An (Ah (Al (Ae (Ac f Z λa f=>Aa (Ah (Ae (Ac f Z λa f=>Aa (Bd aw λaB aC aw=> ?_)))))))))
   refine AL (λa w=>∃aD:Int,aD=aB∧∃(aE:GH),GLe aq aE∧Fr a 42 [(1,pb ad),(3,ar),(4,iv ap),(5,iv aD)]∧Mem W aE w (ib ad 29 [aa]::au::H)) ?_ ?_
   ·refine Al (AM (λaF a w=>∃aG:Int,∃aH:Int,(aG,aH)=aF∧∃(aI:GH),GLe aq aI∧Fr a 42 [(1,pb ad),(3,ar),(4,iv ap),(5,iv aG),(6,iv aH)]∧Mem W aI w (ib ad 29 [aa]::au::H)) aC ⟨_,_,Z,_,gr,f.k Z,m⟩ ?_)
    clear aC f m
    rintro aF aJ aK aL a w ⟨aG,aH,rfl,aI,aM,f,m⟩
    refine have ac:=rd2 aM ac;Ah (Ae (Ab f Z λa f=>AQ underlying29 Z sizeOf27 f Z λa f=>Ao 0 0 m AW f Z Z Z Z λa f=>Ab f Z λa f=>Bd aK λaN aO aK=>AX T27 f Z Z Z ac aO λaP aQ a aR aS f=>Aw m AY f Z Z aR λa f=>AN underlying35 f Z Z aS λa f=>Ai f Z Z AP λa f=>Aa ?_))
    rcases Ag aK with⟨aT,aK⟩|⟨aT,aK⟩
    ·refine Am f Z aT (An (Ah (Al (Aj (Ab f Z λa f=>AQ underlying29 Z sizeOf27 f Z λa f=>Ao 0 0 m AW f Z Z Z Z λa f=>Ab f Z λa f=>Bd aK λaU aV aK=>AX T27 f Z Z Z ac aV λaW aX a aY aZ f=>Aw m AY f Z Z aY λa f=>Ab f Z λa f=>Bd aK λa0 a1 aK=>AX T35 f Z Z Z aZ a1 λa2 a3 a a4 a5 f=> ?_)))))
     subst a5
     refine Aw m Pl2 f Z Z a4 λa f=>l_o f (C6 (f.e Z) ⟨_,underlying2⟩ underlying88) λa f=> ?_
     obtain⟨a6,aK⟩:=CL aK
     refine l_o f (r_shl (f.e Z) (f.e Z) a6) λa f=>Ai f Z Z EK λa f=>Ac f Z λa f=>Aa (Aj (Ab f Z λa f=>Ai f Z Z AB λa f=>Ac f Z λa f=>Aa ?_))
     obtain rfl:=sj aK
     exact⟨_,Z,_,_,Z,_,aM,f.k Z,m⟩
    ·refine Ak f Z aT (AE Z ?_)
     obtain rfl:=sj aK
     obtain rfl:=aL _ rfl
     exact⟨_,Z,_,aM,f.k Z,m⟩
   ·rintro a w ⟨aD,rfl,aE,a7,f,m⟩
    refine have az:=od1 a7 az;Aj (Ab f Z λa f=>Ab f Z λa f=>AO (R:=R0) (xs:=([aD]:LI)) (RI.one _) m T35 f Z Z Z (by decide) (All2.cons Z (All2.nil _)) λa8 a9 w a m ba f=>Bd aw λbb bc aw=>A6 (RI.one _) 2 m az Z T35 Z (by decide) f Z Z Z (Ow.src (j:=0) ba m Z) bc λbd be w a m bf f=>Ac f Z λa f=>Aa (Aj (Ab f Z λa f=>Ai f Z Z AB λa f=>Ac f Z λa f=>Aa (have m:=m.fr 2;have m:=m.fr 2;have m:=m.eraseAt 2;?_))))
    obtain rfl:=sj aw
    exact⟨_,Z,_,_,Z,_,be,bd,(gt ay a7),f.k Z,m,bf⟩
  ·refine Ak f Z aA (AE Z (have m:=m.fr 1;have m:=m.eraseAt 1;?_))
   obtain rfl:=sj aw
   obtain rfl:=ax _ rfl
   exact⟨_,Z,_,ar,au,ay,f.k Z,m,az⟩
 ·rintro a w ⟨aj,rfl,ak,al,am,bg,f,m,bh⟩
  refine Ae (Ab f Z λa f=>Ac f Z λa f=>Aa (Ar ?_))
  obtain rfl:=sj hd
  exact⟨[al],f.g Z,f.d,_,[am],bg,m,_,_,Z,Z,bh⟩
theorem Wk.Q0 {aa ab ac ad ae:Value}{af:LL}{ag ah:LI}{ai aj:LL}(m:Mem W G w (H))(ak:R2 G aa af)(al:R1 G ab ag)(am:R1 G ac ah)(an:R2 G ad ai)(ao:R2 G ae aj){y:Bool}(hd:D.Q0 af ag ah ai aj=some y):
  Calls prog 43 #[(.agg #[aa]),(.agg #[ab,ac,ad,ae])] w (Res W G H (λ_ Ho v=>Ho=[]∧v=(.bool y))):=by
 refine Au (args:=[(.agg #[aa]),(.agg #[ab,ac,ad,ae])]) (N:=107) [.tmp 4] func43 Z Z (lb Z) Z λa f=> ?_
 unfold D.Q0 at hd
 refine Ae (A3 (cs:=[aa]) m f Z Z Z λap w a m f=>A3 (cs:=[ab,ac,ad,ae]) m f Z Z Z λaq w a m f=>Ac f Z λa f=>AF (AQ underlying29 Z sizeOf27 f Z λa f=>Ao 1 0 m AW f Z Z Z Z λa f=>AN underlying27 f Z Z ak λa f=>Bd hd λar au hd=>Cy (R:=R0) m T35 Z (by decide) Z f Z Z Z au λav aw w a m ax f=>Ac f Z λa f=>AF (AQ underlying29 Z sizeOf27 f Z λa f=>Ao 2 0 m AW f Z Z Z Z λa f=>AN underlying27 f Z Z ak λa f=>Bd hd λay az hd=>Cy (R:=R0) m T35 Z (by decide) Z f Z Z Z az λaA aB w a m aC f=>Ac f Z λa f=>Aa (Ah (Ae (Ac f Z λa f=>Aa (Bd hd λaD aE hd=> ?_)))))))
 refine AL (λa w=>∃aF:LI,∃aG:LI,(aF,aG)=aD∧∃(aH:GH) (aI:Itm) (aJ:Itm),GLe G aH∧Fr a 107 [(2,pb ap),(5,aw),(6,aB)]∧Mem W aH w (ib ap 29 [aa]::aI::aJ::H)∧Ow R0 2 aH aI aw aF∧Ow R0 2 aH aJ aB aG) ?_ ?_
 ·refine Al (have m:=m.fr 1;have m:=m.fr 2;have m:=m.fr 3;AM (λaK a w=>∃aL:LI,∃aM:LI,∃aN:Int,(aL,aM,aN)=aK∧∃(aO:GH) (aP:Itm) (aQ:Itm),GLe G aO∧Fr a 107 [(2,pb ap),(3,pb aq),(5,aw),(6,aB),(7,iv aN)]∧Mem W aO w (ib ap 29 [aa]::ib aq 38 [ab,ac,ad,ae]::aP::aQ::H)∧Ow R0 2 aO aP aw aL∧Ow R0 2 aO aQ aB aM) aE ⟨_,_,_,Z,_,av,aA,gr,f.k Z,m,ax,aC⟩ ?_)
  clear aE f m
  rintro aK aR aS aT a w ⟨aL,aM,aN,rfl,aO,aP,aQ,aU,f,m,aV,aW⟩
  refine have al:=rd1 aU al;have am:=rd1 aU am;have an:=rd2 aU an;Ah (Ae (Ab f Z λa f=>AQ underlying38 Z sizeOf35 f Z λa f=>Ao 1 0 m AY f Z Z Z Z λa f=>AN underlying35 f Z Z al λa f=>Ai f Z Z AP λa f=>Aa ?_))
  rcases Ag aS with⟨aX,aS⟩|⟨aX,aS⟩
  ·refine Am f Z aX (An (Ah (Al (Ah (Ae (AQ underlying38 Z sizeOf35 f Z λa f=>Ao 1 0 m AY f Z Z Z Z λa f=>Ab f Z λa f=>Bd aS λaY aZ aS=>AX T35 f Z Z Z al aZ λa0 a1 a a2 a3 f=> ?_))))))
   subst a3
   refine Aw m Pl2 f Z Z a2 λa f=>Ai f Z Z Bf λa f=>Aa (Bd aS λa4 a5 aS=> ?_)
   refine AL (λa w=>∃a6:LI,a6=a4∧∃(a7:GH) (a8:Itm),GLe aO a7∧Fr a 107 [(2,pb ap),(3,pb aq),(5,aw),(6,aB),(7,iv aN)]∧Mem W a7 w (ib ap 29 [aa]::ib aq 38 [ab,ac,ad,ae]::a8::aQ::H)∧Ow R0 2 a7 a8 aw a6) ?_ ?_
   ·rcases Ag a5 with⟨a9,a5⟩|⟨a9,a5⟩
    ·refine Am f Z a9 (Aj (Ab f Z λa f=>AQ underlying38 Z sizeOf35 f Z λa f=>Ao 1 1 m AY f Z Z Z Z λa f=>Ab f Z λa f=>Bd a5 λba bb a5=>AX T35 f Z Z Z am bb λbc bd a be bf f=> ?_))
     subst bf
     refine Aw m Pl2 f Z Z be λa f=>Bd a5 λbg bh a5=>Bm 2 m aV Z T35 f Z Z Z bh λbi a bj f=>Bl 2 m aV Z Pl2 f Z Z bj bh λbk a bl f=> ?_
     subst bl
     refine Ai f Z Z AB λa f=>Bd a5 λbm bn a5=>Bm 2 m aV Z T35 f Z Z Z bn λbo a bp f=>Ci 2 m aV Z sizeOf2 f Z Z bp bn Z Z Z λbq w m br=>Aa ?_
     obtain rfl:=sj a5
     exact⟨_,Z,_,bq,gr,f.k Z,m,br⟩
    ·refine Ak f Z a9 (An ?_)
     obtain rfl:=sj a5
     exact⟨_,Z,_,aP,gr,f.k Z,m,aV⟩
   ·rintro a w ⟨a6,rfl,a7,a8,bs,f,m,bt⟩
    refine have an:=rd2 bs an;have aW:=od1 bs aW;Ae (AQ underlying38 Z sizeOf27 f Z λa f=>Ao 1 2 m AW f Z Z Z Z λa f=>Ab f Z λa f=>Bd aS λbu bv aS=>AX T27 f Z Z Z an bv λbw bx a bz bA f=>Aw m AY f Z Z bz λa f=>Bd aS λbB bC aS=>A2 f Z call106 (Wk.l0 m bA bC) λbD w bE m a f=>have an:=rd2 bE an;have bt:=od1 bE bt;have aW:=od1 bE aW;Ac f Z λa f=>AF (Ac f Z λa f=>Aa (Bd aS λbF bG aS=> ?_)))
    refine AL (λa w=>∃bH:LI,bH=bF∧∃(bI:GH) (bJ:Itm),GLe bD bI∧Fr a 107 [(2,pb ap),(3,pb aq),(5,aw),(6,aB),(7,iv aN)]∧Mem W bI w (ib ap 29 [aa]::ib aq 38 [ab,ac,ad,ae]::a8::bJ::H)∧Ow R0 2 bI bJ aB bH) ?_ ?_
    ·refine Al (AM (λbK a w=>∃bL:LI,∃bM:Int,(bL,bM)=bK∧∃(bN:GH) (bO:Itm),GLe bD bN∧Fr a 107 [(2,pb ap),(3,pb aq),(5,aw),(6,aB),(7,iv aN),(8,iv bB),(9,iv bM)]∧Mem W bN w (ib ap 29 [aa]::ib aq 38 [ab,ac,ad,ae]::a8::bO::H)∧Ow R0 2 bN bO aB bL) bG ⟨_,_,Z,_,aQ,gr,f.k Z,m,aW⟩ ?_)
     clear bG f m
     rintro bK bP bQ bR a w ⟨bL,bM,rfl,bN,bO,bS,f,m,bT⟩
     refine have an:=rd2 bS an;Ah (Ae (Ab f Z λa f=>AQ underlying38 Z sizeOf27 f Z λa f=>Ao 1 2 m AW f Z Z Z Z λa f=>Ab f Z λa f=>Bd bQ λbU bV bQ=>AX T27 f Z Z Z an bV λbW bX a bY bZ f=>Aw m AY f Z Z bY λa f=>AN underlying35 f Z Z bZ λa f=>Ai f Z Z AP λa f=>Aa ?_))
     rcases Ag bQ with⟨b0,bQ⟩|⟨b0,bQ⟩
     ·refine Am f Z b0 (An (Ah (Al (Bg 23 AV (by kernel_rfl) m (As 0 23 Z f Z λa f=>Br 1 23 underlying38 Z sizeOf27 Z f Z λa f=>Bo 2 23 1 AW Z Z Z f Z λa f=>As 3 23 Z f Z λa f=>Bd bQ λb1 b2 bQ=>Bb 4 23 T27 an b2 Z f Z Z λb3 b4 a b5 b6 f=>Ba 5 23 AY b5 Z f Z λa f=>As 6 23 Z f Z λa f=>Bd bQ λb7 b8 bQ=>Bb 7 23 T35 b6 b8 Z f Z Z λb9 ca a cb cc f=> ?_)))))
      subst cc
      refine Ba 8 23 Pl2 cb Z f Z λa f=>As 9 23 Z f Z λa f=>Br 10 23 underlying38 Z sizeOf27 Z f Z λa f=>Bo 11 23 1 AW Z Z Z f Z λa f=>As 12 23 Z f Z λa f=>Bd bQ λcd ce bQ=>Bb 13 23 T27 an ce Z f Z Z λcf cg a ch ci f=>Ba 14 23 AY ch Z f Z λa f=>As 15 23 Z f Z λa f=>Bd bQ λcj ck bQ=>Bb 16 23 T35 ci ck Z f Z Z λcl cm a cn co f=> ?_
      subst co
      refine Ba 17 23 Pl2 cn Z f Z λa f=>Bd bQ λcp cq bQ=>DD 18 23 3 m bT T35 cq Z f Z Z λcr a ct f=>Ew 19 23 3 bT Pl2 ct cq Z f Z λcu a cv f=> ?_
      subst cv
      refine As 20 23 Z f Z λa f=>q_p 21 23 Z f (λ_=>BB (f.e Z) (f.e Z) EK) λa f=>Bd bQ λcw cx bQ=>DD 22 23 3 m bT T35 cx Z f Z Z λcy a cz f=>A4 λcA w cB m=>have bT:=od1 cB bT;Ci 3 m bT Z sizeOf2 f Z Z cz cx Z Z Z λcC w m cD=>Aa (Aj (Ab f Z λa f=>Ai f Z Z AB λa f=>Ac f Z λa f=>Aa ?_))
      obtain rfl:=sj bQ
      exact⟨_,Z,_,_,Z,_,cC,(gt bS cB),f.k Z,m,cD⟩
     ·refine Ak f Z b0 (AE Z ?_)
      obtain rfl:=sj bQ
      obtain rfl:=bR _ rfl
      exact⟨_,Z,_,bO,bS,f.k Z,m,bT⟩
    ·rintro a w ⟨bH,rfl,bI,bJ,cE,f,m,cF⟩
     refine have bt:=od1 cE bt;Aj (Ab f Z λa f=>Ai f Z Z AB λa f=>Ac f Z λa f=>Aa ?_)
     obtain rfl:=sj aS
     exact⟨_,Z,_,_,_,Z,_,a8,bJ,(gt aU (gt bs (gt bE cE))),f.k Z,m,bt,cF⟩
  ·refine Ak f Z aX (AE Z (have m:=m.fr 3;have m:=m.fr 3;have m:=m.fr 2;have m:=m.eraseAt 3;?_))
   obtain rfl:=sj aS
   obtain rfl:=aT _ rfl
   exact⟨_,_,Z,_,aP,aQ,aU,f.k Z,m,aV,aW⟩
 ·rintro a w ⟨aF,aG,rfl,aH,aI,aJ,cG,f,m,cH,cI⟩
  refine have ak:=rd2 cG ak;Ae (Ay 0 0 (ds:=[aa]) m Bh f Z Z Z Z Z λa f=>Bd hd λcJ cK hd=>BK f Z call52 (Wk.m m ak cK) λcL cM cN w cO m cP a f=>have cH:=od1 cO cH;have cI:=od1 cO cI;Ac f Z λa f=>Aa (Ah (Ae (Ac f Z λa f=>Aa (Bd hd λcQ cR hd=> ?_)))))
  refine AL (λa w=>∃q_1205':Unit,cQ= .inl q_1205'∧∃(cS:GH),GLe cN cS∧Fr a 107 []∧Mem W cS w (H)) ?_ ?_
  ·refine Al (have m:=m.fr 3;have m:=m.fr 3;have m:=m.eraseAt 3;AM (λcT a w=>∃cU:Int,cU=cT∧∃(cV:GH),GLe cN cV∧Fr a 107 [(5,aw),(6,aB),(10,cL),(11,iv cU)]∧Mem W cV w (aI::aJ::cM::H)) cR ⟨_,Z,_,gr,f.k Z,m⟩ ?_)
   clear cR f m
   rintro cT cW cX cY a w ⟨cU,rfl,cV,cZ,f,m⟩
   refine have cH:=od1 cZ cH;have cI:=od1 cZ cI;have cP:=od1 cZ cP;Ah (Ae (Ab f Z λa f=>Ab f Z λa f=>BH 0 m cH Z underlying35 f Z Z λa f=>Ai f Z Z AP λa f=>Aa ?_))
   rcases Ag cX with⟨c0,cX⟩|⟨c0,cX⟩
   ·refine Am f Z c0 (An (Ah (Al (Ah (Bg 17 AV (by kernel_rfl) m (As 0 17 Z f Z λa f=>As 1 17 Z f Z λa f=>Bd cX λc1 c2 cX=>DD 2 17 0 m cH T35 c2 Z f Z Z λc3 a c4 f=>Ew 3 17 0 cH Pl2 c4 c2 Z f Z λc5 a c6 f=> ?_))))))
    subst c6
    refine q_p 4 17 Z f (λ_=>BB (f.e Z) (f.e Z) Cw) λa f=>As 5 17 Z f Z λa f=>Bd cX λc7 c8 cX=>CW (fuel':=0) (listed':= #[true,true,true,true,true,true,true,true,true,true,true,true,true,true,true,true,true]) (λa=>Fr a 107 [(5,aw),(6,aB),(10,cL),(11,iv cU),(87,(.bool (decide (cU<(aF.length:Int))))),(90,aw),(91,iv cU),(92,c3),(93,iv c1),(94,(.bool (c1 !=1))),(95,(.bool (c1 !=1))),(106,(.bool c7))]) ?_ ?_
    ·intro a f
     refine A4 λc9 w da m=>Aa ?_
     rcases Ag cX with⟨db,cX⟩|⟨db,cX⟩
     ·refine Am f Z db (Ae (Ac f Z λa f=>Aa (Ar (have m:=m.dp 3;?_))))
      obtain rfl:=sj cX
      obtain rfl:=cY _ rfl
      obtain rfl:=sj hd
      exact⟨[(.bool false)],f.g Z,f.d,_,[],(gt cG (gt cO (gt cZ da))),m,Z,Z⟩
     ·refine Ak f Z db (An (Aj (Ab f Z λa f=>Ai f Z Z AB λa f=>Ac f Z λa f=>Aa ?_)))
      obtain rfl:=sj cX
      exact⟨_,Z,_,Z,_,(gt cZ da),f.k Z,m⟩
    ·intro dc
     rcases Ag c8 with⟨dd,c8⟩|⟨dd,c8⟩
     ·refine AA 6 17 Z f dd λa f=>AA 7 17 Z f dd λa f=>AA 8 17 Z f dd λa f=>AA 9 17 Z f dd λa f=>AA 10 17 Z f dd λa f=>AA 11 17 Z f dd λa f=>AA 12 17 Z f dd λa f=>AA 13 17 Z f dd λa f=>AA 14 17 Z f dd λa f=>AA 15 17 Z f dd λa f=>q_p 16 17 Z f (λ_=>AK (f.e Z) dd (f.e Z)) λa f=> ?_
      obtain rfl:=sj c8
      exact dc _ (f.k Z)
     ·refine As (hw:=wo f dd) 6 17 Z f Z λa f=>As (hw:=wo f dd) 7 17 Z f Z λa f=>Bd c8 λde df c8=>DD (hw:=wo f dd) 8 17 2 m cP T35 df Z f Z Z λdg a dh f=>Ew (hw:=wo f dd) 9 17 2 cP Pl2 dh df Z f Z λdi a dj f=> ?_
      subst dj
      refine As (hw:=wo f dd) 10 17 Z f Z λa f=>As (hw:=wo f dd) 11 17 Z f Z λa f=>Bd c8 λdk dl c8=>DD (hw:=wo f dd) 12 17 1 m cI T35 dl Z f Z Z λdm a dn f=>Ew (hw:=wo f dd) 13 17 1 cI Pl2 dn dl Z f Z λdq a dr f=> ?_
      subst dr
      refine q_p (hw:=wo f dd) 14 17 Z f (λ_=>BB (f.e Z) (f.e Z) Dw) λa f=>q_p (hw:=wo f dd) 15 17 Z f (λ_=>BB (f.e Z) (f.e Z) Cw) λa f=>q_p 16 17 Z f (λ_=>AI (f.e Z) dd (f.e Z)) λa f=> ?_
      obtain rfl:=sj c8
      exact dc _ (f.k Z)
   ·refine Ak f Z c0 (AE Z (have m:=m.dp 3;?_))
    obtain rfl:=sj cX
    obtain rfl:=cY _ rfl
    exact⟨_,Z,_,cZ,f.weak trivial,m⟩
  ·rintro a w ⟨_,rfl,cS,dt,f,m⟩
   refine Ae (Ac f Z λa f=>Aa (Ar ?_))
   obtain rfl:=sj hd
   exact⟨[(.bool true)],f.g Z,f.d,_,[],(gt cG (gt cO dt)),m,Z,Z⟩
theorem Wk.H0 {aa ab ac ad ae:Value}{af:LL}{ag ah:LI}{ai aj:LL}(m:Mem W G w (H))(ak:R2 G aa af)(al:R1 G ab ag)(am:R1 G ac ah)(an:R2 G ad ai)(ao:R2 G ae aj){y:Bool}(hd:D.H0 af ag ah ai aj=some y):
  Calls prog 11 #[(.agg #[aa]),(.agg #[ab,ac,ad,ae])] w (Res W G H (λ_ Ho v=>Ho=[]∧v=(.bool y))):=by
 refine Au (args:=[(.agg #[aa]),(.agg #[ab,ac,ad,ae])]) (N:=69) [.tmp 4] func11 Z Z (lb Z) Z λa f=> ?_
 unfold D.H0 at hd
 refine Ae (A3 (cs:=[aa]) m f Z Z Z λap w a m f=>A3 (cs:=[ab,ac,ad,ae]) m f Z Z Z λaq w a m f=>Ac f Z λa f=>AF (AQ underlying38 Z sizeOf35 f Z λa f=>Ao 0 0 m AY f Z Z Z Z λa f=>AN underlying35 f Z Z al λa f=>Ac f Z λa f=>Aa (Ah (Ae (Ay 1 0 (ds:=[aa]) m Bh f Z Z Z Z Z λa f=>Bd hd λar au hd=>A2 f Z call40 (Wk.r m ak au) λav w aw m a f=>have ak:=rd2 aw ak;have al:=rd1 aw al;have am:=rd1 aw am;have an:=rd2 aw an;have ao:=rd2 aw ao;l_o f (Bj (f.e Z)) λa f=>Ab f Z λa f=> ?_)))))
 refine Bk 3 (λa w=>∃ax,GLe av ax∧Mem W ax w (ib aq 38 [ab,ac,ad,ae]::ib ap 29 [aa]::H)∧Fr a 69 [(0,(.agg #[aa])),(1,(.agg #[ab,ac,ad,ae])),(2,pb ap),(3,pb aq),(5,(iv (ag.length:Int))),(10,(.agg #[aa])),(11,(.bool ar)),(12,(.bool (!ar))),(13,(.bool (!ar))),(16,(.bool ((!ar)||(decide ((ag.length:Int)<1)))))]) ?_ ?_
 ·rcases Bool.eq_false_or_eq_true (!ar) with ay|ay
  ·exact Aq f ay λa f=>Aq f ay λa f=>l_o f (AK (f.e Z) ay (f.e Z)) λa f=>⟨_,gr,m,f.weak ⟨Z,Z,Z,Z,Z,Z,Z,Z,Z,by rw[ay];rfl,trivial⟩⟩
  ·exact Ap f ay (Ab f Z λa f=>Ap f ay (Ai f Z Z AP λa f=>l_o f (AI (f.e Z) ay (f.e Z)) λa f=>⟨_,gr,m,f.weak ⟨Z,Z,Z,Z,Z,Z,Z,Z,Z,by rw[ay];rfl,trivial⟩⟩))
 ·rintro a w ⟨ax,az,m,f⟩
  refine have ak:=rd2 az ak;have al:=rd1 az al;have am:=rd1 az am;have an:=rd2 az an;have ao:=rd2 az ao;Ab f Z λa f=> ?_
  refine Bk 3 (λa w=>∃aA,GLe ax aA∧Mem W aA w (ib aq 38 [ab,ac,ad,ae]::ib ap 29 [aa]::H)∧Fr a 69 [(0,(.agg #[aa])),(1,(.agg #[ab,ac,ad,ae])),(2,pb ap),(3,pb aq),(5,(iv (ag.length:Int))),(10,(.agg #[aa])),(11,(.bool ar)),(12,(.bool (!ar))),(13,(.bool (!ar))),(16,(.bool ((!ar)||(decide ((ag.length:Int)<1))))),(17,(.bool ((!ar)||(decide ((ag.length:Int)<1))))),(20,(.bool (((!ar)||(decide ((ag.length:Int)<1)))||(decide ((200:Int)<(ag.length:Int))))))]) ?_ ?_
  ·rcases Bool.eq_false_or_eq_true ((!ar)||(decide ((ag.length:Int)<1))) with aB|aB
   ·exact Aq f aB λa f=>Aq f aB λa f=>l_o f (AK (f.e Z) aB (f.e Z)) λa f=>⟨_,gr,m,f.weak ⟨Z,Z,Z,Z,Z,Z,Z,Z,Z,Z,Z,by rw[aB];rfl,trivial⟩⟩
   ·exact Ap f aB (Ab f Z λa f=>Ap f aB (Ai f Z Z CK λa f=>l_o f (AI (f.e Z) aB (f.e Z)) λa f=>⟨_,gr,m,f.weak ⟨Z,Z,Z,Z,Z,Z,Z,Z,Z,Z,Z,by rw[aB];rfl,trivial⟩⟩))
  ·rintro a w ⟨aA,aC,m,f⟩
   refine have ak:=rd2 aC ak;have al:=rd1 aC al;have am:=rd1 aC am;have an:=rd2 aC an;have ao:=rd2 aC ao;Ab f Z λa f=> ?_
   refine Bk 6 (λa w=>∃aD,GLe aA aD∧Mem W aD w (ib aq 38 [ab,ac,ad,ae]::ib ap 29 [aa]::H)∧Fr a 69 [(0,(.agg #[aa])),(1,(.agg #[ab,ac,ad,ae])),(2,pb ap),(3,pb aq),(5,(iv (ag.length:Int))),(10,(.agg #[aa])),(11,(.bool ar)),(12,(.bool (!ar))),(13,(.bool (!ar))),(16,(.bool ((!ar)||(decide ((ag.length:Int)<1))))),(17,(.bool ((!ar)||(decide ((ag.length:Int)<1))))),(20,(.bool (((!ar)||(decide ((ag.length:Int)<1)))||(decide ((200:Int)<(ag.length:Int)))))),(21,(.bool (((!ar)||(decide ((ag.length:Int)<1)))||(decide ((200:Int)<(ag.length:Int)))))),(27,(.bool ((((!ar)||(decide ((ag.length:Int)<1)))||(decide ((200:Int)<(ag.length:Int))))||((ah.length:Int) !=(ag.length:Int)))))]) ?_ ?_
   ·rcases Bool.eq_false_or_eq_true (((!ar)||(decide ((ag.length:Int)<1)))||(decide ((200:Int)<(ag.length:Int)))) with aE|aE
    ·exact Aq f aE λa f=>Aq f aE λa f=>Aq f aE λa f=>Aq f aE λa f=>Aq f aE λa f=>l_o f (AK (f.e Z) aE (f.e Z)) λa f=>⟨_,gr,m,f.weak ⟨Z,Z,Z,Z,Z,Z,Z,Z,Z,Z,Z,Z,Z,by rw[aE];rfl,trivial⟩⟩
    ·exact Ap f aE (AQ underlying38 Z sizeOf35 f Z λa f=>Ap f aE (Ao 0 1 m AY f Z Z Z Z λa f=>Ap f aE (AN underlying35 f Z Z am λa f=>Ap f aE (Ab f Z λa f=>Ap f aE (Ai f Z Z Cw λa f=>l_o f (AI (f.e Z) aE (f.e Z)) λa f=>⟨_,gr,m,f.weak ⟨Z,Z,Z,Z,Z,Z,Z,Z,Z,Z,Z,Z,Z,by rw[aE];rfl,trivial⟩⟩)))))
   ·rintro a w ⟨aD,aF,m,f⟩
    refine have ak:=rd2 aF ak;have al:=rd1 aF al;have am:=rd1 aF am;have an:=rd2 aF an;have ao:=rd2 aF ao;Ab f Z λa f=> ?_
    refine Bk 6 (λa w=>∃aG,GLe aD aG∧Mem W aG w (ib aq 38 [ab,ac,ad,ae]::ib ap 29 [aa]::H)∧Fr a 69 [(0,(.agg #[aa])),(1,(.agg #[ab,ac,ad,ae])),(2,pb ap),(3,pb aq),(5,(iv (ag.length:Int))),(10,(.agg #[aa])),(11,(.bool ar)),(12,(.bool (!ar))),(13,(.bool (!ar))),(16,(.bool ((!ar)||(decide ((ag.length:Int)<1))))),(17,(.bool ((!ar)||(decide ((ag.length:Int)<1))))),(20,(.bool (((!ar)||(decide ((ag.length:Int)<1)))||(decide ((200:Int)<(ag.length:Int)))))),(21,(.bool (((!ar)||(decide ((ag.length:Int)<1)))||(decide ((200:Int)<(ag.length:Int)))))),(27,(.bool ((((!ar)||(decide ((ag.length:Int)<1)))||(decide ((200:Int)<(ag.length:Int))))||((ah.length:Int) !=(ag.length:Int))))),(28,(.bool ((((!ar)||(decide ((ag.length:Int)<1)))||(decide ((200:Int)<(ag.length:Int))))||((ah.length:Int) !=(ag.length:Int))))),(34,(.bool (((((!ar)||(decide ((ag.length:Int)<1)))||(decide ((200:Int)<(ag.length:Int))))||((ah.length:Int) !=(ag.length:Int)))||((ai.length:Int) !=(ag.length:Int)))))]) ?_ ?_
    ·rcases Bool.eq_false_or_eq_true ((((!ar)||(decide ((ag.length:Int)<1)))||(decide ((200:Int)<(ag.length:Int))))||((ah.length:Int) !=(ag.length:Int))) with aH|aH
     ·exact Aq f aH λa f=>Aq f aH λa f=>Aq f aH λa f=>Aq f aH λa f=>Aq f aH λa f=>l_o f (AK (f.e Z) aH (f.e Z)) λa f=>⟨_,gr,m,f.weak ⟨Z,Z,Z,Z,Z,Z,Z,Z,Z,Z,Z,Z,Z,Z,Z,by rw[aH];rfl,trivial⟩⟩
     ·exact Ap f aH (AQ underlying38 Z sizeOf27 f Z λa f=>Ap f aH (Ao 0 2 m AW f Z Z Z Z λa f=>Ap f aH (AN underlying27 f Z Z an λa f=>Ap f aH (Ab f Z λa f=>Ap f aH (Ai f Z Z Cw λa f=>l_o f (AI (f.e Z) aH (f.e Z)) λa f=>⟨_,gr,m,f.weak ⟨Z,Z,Z,Z,Z,Z,Z,Z,Z,Z,Z,Z,Z,Z,Z,by rw[aH];rfl,trivial⟩⟩)))))
    ·rintro a w ⟨aG,aI,m,f⟩
     refine have ak:=rd2 aI ak;have al:=rd1 aI al;have am:=rd1 aI am;have an:=rd2 aI an;have ao:=rd2 aI ao;Ab f Z λa f=> ?_
     refine Bk 6 (λa w=>∃aJ,GLe aG aJ∧Mem W aJ w (ib aq 38 [ab,ac,ad,ae]::ib ap 29 [aa]::H)∧Fr a 69 [(0,(.agg #[aa])),(1,(.agg #[ab,ac,ad,ae])),(2,pb ap),(3,pb aq),(5,(iv (ag.length:Int))),(10,(.agg #[aa])),(11,(.bool ar)),(12,(.bool (!ar))),(13,(.bool (!ar))),(16,(.bool ((!ar)||(decide ((ag.length:Int)<1))))),(17,(.bool ((!ar)||(decide ((ag.length:Int)<1))))),(20,(.bool (((!ar)||(decide ((ag.length:Int)<1)))||(decide ((200:Int)<(ag.length:Int)))))),(21,(.bool (((!ar)||(decide ((ag.length:Int)<1)))||(decide ((200:Int)<(ag.length:Int)))))),(27,(.bool ((((!ar)||(decide ((ag.length:Int)<1)))||(decide ((200:Int)<(ag.length:Int))))||((ah.length:Int) !=(ag.length:Int))))),(28,(.bool ((((!ar)||(decide ((ag.length:Int)<1)))||(decide ((200:Int)<(ag.length:Int))))||((ah.length:Int) !=(ag.length:Int))))),(34,(.bool (((((!ar)||(decide ((ag.length:Int)<1)))||(decide ((200:Int)<(ag.length:Int))))||((ah.length:Int) !=(ag.length:Int)))||((ai.length:Int) !=(ag.length:Int))))),(35,(.bool (((((!ar)||(decide ((ag.length:Int)<1)))||(decide ((200:Int)<(ag.length:Int))))||((ah.length:Int) !=(ag.length:Int)))||((ai.length:Int) !=(ag.length:Int))))),(41,(.bool ((((((!ar)||(decide ((ag.length:Int)<1)))||(decide ((200:Int)<(ag.length:Int))))||((ah.length:Int) !=(ag.length:Int)))||((ai.length:Int) !=(ag.length:Int)))||((aj.length:Int) !=(ag.length:Int)))))]) ?_ ?_
     ·rcases Bool.eq_false_or_eq_true (((((!ar)||(decide ((ag.length:Int)<1)))||(decide ((200:Int)<(ag.length:Int))))||((ah.length:Int) !=(ag.length:Int)))||((ai.length:Int) !=(ag.length:Int))) with aK|aK
      ·exact Aq f aK λa f=>Aq f aK λa f=>Aq f aK λa f=>Aq f aK λa f=>Aq f aK λa f=>l_o f (AK (f.e Z) aK (f.e Z)) λa f=>⟨_,gr,m,f.weak ⟨Z,Z,Z,Z,Z,Z,Z,Z,Z,Z,Z,Z,Z,Z,Z,Z,Z,by rw[aK];rfl,trivial⟩⟩
      ·exact Ap f aK (AQ underlying38 Z sizeOf27 f Z λa f=>Ap f aK (Ao 0 3 m AW f Z Z Z Z λa f=>Ap f aK (AN underlying27 f Z Z ao λa f=>Ap f aK (Ab f Z λa f=>Ap f aK (Ai f Z Z Cw λa f=>l_o f (AI (f.e Z) aK (f.e Z)) λa f=>⟨_,gr,m,f.weak ⟨Z,Z,Z,Z,Z,Z,Z,Z,Z,Z,Z,Z,Z,Z,Z,Z,Z,by rw[aK];rfl,trivial⟩⟩)))))
     ·rintro a w ⟨aJ,aL,m,f⟩
      refine have ak:=rd2 aL ak;have al:=rd1 aL al;have am:=rd1 aL am;have an:=rd2 aL an;have ao:=rd2 aL ao;Aa ?_
      rcases Ag hd with⟨aM,hd⟩|⟨aM,hd⟩
      ·refine Am f Z aM (Ae (Ac f Z λa f=>Aa (Ar (have m:=m.dp 2;?_))))
       obtain rfl:=sj hd
       exact⟨[(.bool false)],f.g Z,f.d,_,[],(gt aw (gt az (gt aC (gt aF (gt aI aL))))),m,Z,Z⟩
      ·refine Ak f Z aM (An (Ah (Ae (Ac f Z λa f=>Aa (Bd hd λaN aO hd=> ?_)))))
       refine AL (λa w=>∃q_48':Unit,aN= .inl q_48'∧∃(aP:GH),GLe aJ aP∧Fr a 69 [(2,pb ap),(3,pb aq),(5,(iv (ag.length:Int)))]∧Mem W aP w (ib ap 29 [aa]::ib aq 38 [ab,ac,ad,ae]::H)) ?_ ?_
       ·refine Al (have m:=m.fr 1;AM (λaQ a w=>∃aR:Int,aR=aQ∧∃(aS:GH),GLe aJ aS∧Fr a 69 [(2,pb ap),(3,pb aq),(5,(iv (ag.length:Int))),(6,iv aR)]∧Mem W aS w (ib ap 29 [aa]::ib aq 38 [ab,ac,ad,ae]::H)) aO ⟨_,Z,_,gr,f.k Z,m⟩ ?_)
        clear aO f m
        rintro aQ aT aU aV a w ⟨aR,rfl,aS,aW,f,m⟩
        refine have ak:=rd2 aW ak;have al:=rd1 aW al;have am:=rd1 aW am;have an:=rd2 aW an;have ao:=rd2 aW ao;Ah (Ae (Ab f Z λa f=>Ab f Z λa f=>Ai f Z Z AP λa f=>Aa ?_))
        rcases Ag aU with⟨aX,aU⟩|⟨aX,aU⟩
        ·refine Am f Z aX (An (Ah (Al (Ae (Ay 0 0 (ds:=[aa]) m Bh f Z Z Z Z Z λa f=>Ay 1 0 (ds:=[ab,ac,ad,ae]) m Cd f Z Z Z Z Z λa f=>Ab f Z λa f=>Bd aU λaY aZ aU=>A2 f Z call41 (Wk.i m ak al am an ao aZ) λa0 w a1 m a f=>l_o f (Bj (f.e Z)) λa f=>Aa ?_)))))
         rcases Ag aU with⟨a2,aU⟩|⟨a2,aU⟩
         ·refine Am f Z a2 (Ae (Ac f Z λa f=>Aa (Ar (have m:=m.dp 2;?_))))
          obtain rfl:=sj aU
          obtain rfl:=aV _ rfl
          obtain rfl:=sj hd
          exact⟨[(.bool false)],f.g Z,f.d,_,[],(gt aw (gt az (gt aC (gt aF (gt aI (gt aL (gt aW a1))))))),m,Z,Z⟩
         ·refine Ak f Z a2 (An (Aj (Ab f Z λa f=>Ai f Z Z AB λa f=>Ac f Z λa f=>Aa ?_)))
          obtain rfl:=sj aU
          exact⟨_,Z,_,Z,_,(gt aW a1),f.k Z,m⟩
        ·refine Ak f Z aX (AE Z ?_)
         obtain rfl:=sj aU
         obtain rfl:=aV _ rfl
         exact⟨_,Z,_,aW,f.k Z,m⟩
       ·rintro a w ⟨_,rfl,aP,a3,f,m⟩
        refine have ak:=rd2 a3 ak;have al:=rd1 a3 al;have am:=rd1 a3 am;have an:=rd2 a3 an;have ao:=rd2 a3 ao;Ae (AQ underlying38 Z sizeOf27 f Z λa f=>Ao 1 2 m AW f Z Z Z Z λa f=>Ab f Z λa f=>Ai f Z Z CA λa f=>Bd hd λa4 a5 hd=>AX T27 f Z Z Z an a5 λa6 a7 a a8 a9 f=>Aw m AY f Z Z a8 λa f=>AN underlying35 f Z Z a9 λa f=>Ai f Z Z Bf λa f=>Ab f Z λa f=>Bd hd λba bb hd=> ?_)
        refine Bk 3 (λa w=>∃bc,GLe aP bc∧Mem W bc w (ib ap 29 [aa]::ib aq 38 [ab,ac,ad,ae]::H)∧Fr a 69 [(2,pb ap),(3,pb aq),(5,(iv (ag.length:Int))),(52,(.pointer (some ⟨aq,2,none⟩))),(53,ad),(54,(iv (ag.length:Int))),(55,(iv (i64.wrap ((ag.length:Int)-1)))),(56,a6),(57,a7),(58,(iv (a4.length:Int))),(59,(.bool ((a4.length:Int)==0))),(60,(.bool ((a4.length:Int)==0))),(63,(.bool ba))]) ?_ ?_
        ·rcases Ag bb with⟨bd,bb⟩|⟨bd,bb⟩
         ·refine Ap f bd (Ay 1 0 (ds:=[ab,ac,ad,ae]) m Cd f Z Z Z Z Z λa f=>Ap f bd (Bd bb λbe bf bb=>A2 f Z call42 (Wk.h1 m al am an ao bf) λbg w bh m a f=>l_o f (AK (f.e Z) bd (f.e Z)) λa f=> ?_))
          obtain rfl:=sj bb
          exact⟨_,bh,m,f.k Z⟩
         ·refine Aq f bd λa f=>Aq f bd λa f=>l_o f (AI (f.e Z) bd (f.e Z)) λa f=> ?_
          obtain rfl:=sj bb
          exact⟨_,gr,m,f.k Z⟩
        ·rintro a w ⟨bc,bi,m,f⟩
         refine have an:=rd2 bi an;have ak:=rd2 bi ak;have al:=rd1 bi al;have am:=rd1 bi am;have ao:=rd2 bi ao;Ab f Z λa f=>Bd hd λbj bk hd=> ?_
         refine Bk 4 (λa w=>∃bl,GLe bc bl∧Mem W bl w (ib ap 29 [aa]::ib aq 38 [ab,ac,ad,ae]::H)∧Fr a 69 [(2,pb ap),(3,pb aq),(5,(iv (ag.length:Int))),(52,(.pointer (some ⟨aq,2,none⟩))),(53,ad),(54,(iv (ag.length:Int))),(55,(iv (i64.wrap ((ag.length:Int)-1)))),(56,a6),(57,a7),(58,(iv (a4.length:Int))),(59,(.bool ((a4.length:Int)==0))),(60,(.bool ((a4.length:Int)==0))),(63,(.bool ba)),(64,(.bool ba)),(68,(.bool bj))]) ?_ ?_
         ·rcases Ag bk with⟨bm,bk⟩|⟨bm,bk⟩
          ·refine Ap f bm (Ay 0 0 (ds:=[aa]) m Bh f Z Z Z Z Z λa f=>Ap f bm (Ay 1 0 (ds:=[ab,ac,ad,ae]) m Cd f Z Z Z Z Z λa f=>Ap f bm (Bd bk λbn bo bk=>A2 f Z call43 (Wk.Q0 m ak al am an ao bo) λbp w bq m a f=>l_o f (AK (f.e Z) bm (f.e Z)) λa f=> ?_)))
           obtain rfl:=sj bk
           exact⟨_,bq,m,f.k Z⟩
          ·refine Aq f bm λa f=>Aq f bm λa f=>Aq f bm λa f=>l_o f (AI (f.e Z) bm (f.e Z)) λa f=> ?_
           obtain rfl:=sj bk
           exact⟨_,gr,m,f.k Z⟩
         ·rintro a w ⟨bl,br,m,f⟩
          refine Ac f Z λa f=>Aa (Ar (have m:=m.dp 2;?_))
          obtain rfl:=sj hd
          exact⟨[(.bool bj)],f.g Z,f.d,_,[],(gt aw (gt az (gt aC (gt aF (gt aI (gt aL (gt a3 (gt bi br)))))))),m,Z,Z⟩
theorem Wk.x1 {b1:Nat}{x0 aa:Int}(m:Mem W G w (ib b1 3 [iv aa]::H)){y:Bool}(hd:D.x1 x0 aa=some y):
  Calls prog 109 #[iv x0,pb b1] w (Res W G H (λ_ Ho v=>Ho=[ib b1 3 [iv aa]]∧v=(.bool y))):=by
 refine Au (args:=[iv x0,pb b1]) (N:=9) [.tmp 3] func109 Z Z (lb Z) Z λa f=> ?_
 unfold D.x1 at hd
 refine Ae (Ac f Z λa f=>AF (Ab f Z λa f=>Ao 0 0 m Pl3 f Z Z Z Z λa f=>Ai f Z Z CA λa f=>Bd hd λab ac hd=>A2 f Z call67 (Wk.t m ac) λad w ae m a f=>l_o f (Bj (f.e Z)) λa f=>Ac f Z λa f=>Aa (Ar ?_)))
 obtain rfl:=sj hd
 exact⟨[(.bool (!ab))],f.g Z,f.d,_,[ib b1 3 [iv aa]],ae,m,Z,Z⟩
theorem Wk.B1 {v0:Value}{b1c0:Nat}{x0:LI}{aa:Int}(m:Mem W G w (ib b1c0 3 [iv aa]::H))(h0:R1 G v0 x0){y:Int}(hd:D.B1 x0 aa=some y):
  Calls prog 133 #[v0,Fw 109 #[(pb b1c0)]] w (Res W G H (λ_ Ho v=>Ho=[ib b1c0 3 [iv aa]]∧v=(iv y))):=by
 refine Au (args:=[v0,Fw 109 #[(pb b1c0)]]) (N:=19) [.tmp 4] func133 Z Z (lb Z) Z λa f=> ?_
 unfold D.B1 at hd
 refine Ae (Ac f Z λa f=>Aa (Ah (Ae (Ab f Z λa f=>AN underlying35 f Z Z h0 λa f=>Ab f Z λa f=>Aa (Bd hd λab ac hd=> ?_)))))
 refine AL (λa w=>∃q_33':Unit,ab= .inl q_33'∧∃(ad:GH),GLe G ad∧Fr a 19 []∧Mem W ad w (ib b1c0 3 [iv aa]::H)) ?_ ?_
 ·refine Al (AM (λae a w=>∃af:Int,af=ae∧∃(ag:GH),GLe G ag∧Fr a 19 [(0,v0),(1,Fw 109 #[(pb b1c0)]),(7,(iv (x0.length:Int))),(8,iv af)]∧Mem W ag w (ib b1c0 3 [iv aa]::H)) ac ⟨_,Z,_,gr,f.k Z,m⟩ ?_)
  clear ac f m
  rintro ae ah ai aj a w ⟨af,rfl,ag,ak,f,m⟩
  refine have h0:=rd1 ak h0;Ae (Ai f Z Z AP λa f=>Aa (Ah ?_))
  rcases Ag ai with⟨al,ai⟩|⟨al,ai⟩
  ·refine Am f Z al (An (Ah (Al (Ae (Ab f Z λa f=>Ac f Z λa f=>AF (Ab f Z λa f=>Ab f Z λa f=>Ab f Z λa f=>Bd ai λam an ai=>AX T35 f Z Z Z h0 an λao ap a aq ar f=> ?_))))))
   subst ar
   refine Aw m Pl2 f Z Z aq λa f=>Bd ai λau av ai=>CC f Z Z Z call109 (Wk.x1 m av) λaw ax ay w az m aA a f=> ?_
   obtain⟨rfl,rfl⟩:=aA
   refine Aa ?_
   rcases Ag ai with⟨aB,ai⟩|⟨aB,ai⟩
   ·refine Am f Z aB (Ae (Ab f Z λa f=>Ac f Z λa f=>Aa (Ar ?_)))
    obtain rfl:=sj ai
    obtain rfl:=aj _ rfl
    obtain rfl:=sj hd
    exact⟨[iv af],f.g Z,f.d,_,[ib b1c0 3 [iv aa]],(gt ak az),m,Z,Z⟩
   ·refine Ak f Z aB (An (Aj (Ai f Z Z AB λa f=>Ab f Z λa f=>Aa ?_)))
    obtain rfl:=sj ai
    exact⟨_,Z,_,Z,_,(gt ak az),f.k Z,m⟩
  ·refine Ak f Z al (AE Z ?_)
   obtain rfl:=sj ai
   obtain rfl:=aj _ rfl
   exact⟨_,Z,_,ak,f.weak trivial,m⟩
 ·rintro a w ⟨_,rfl,ad,aC,f,m⟩
  refine Ae (Ac f Z λa f=>Aa (Ar ?_))
  obtain rfl:=sj hd
  exact⟨[(iv (-1))],f.g Z,f.d,_,[ib b1c0 3 [iv aa]],aC,m,Z,Z⟩
theorem Wk.l1 {v0:Value}{b1c0:Nat}{x0:LI}{aa:Int}(m:Mem W G w (ib b1c0 3 [iv aa]::H))(h0:R1 G v0 x0){y:Bool}(hd:D.l1 x0 aa=some y):
  Calls prog 108 #[v0,Fw 109 #[(pb b1c0)]] w (Res W G H (λ_ Ho v=>Ho=[ib b1c0 3 [iv aa]]∧v=(.bool y))):=by
 refine Au (args:=[v0,Fw 109 #[(pb b1c0)]]) (N:=9) [.tmp 4] func108 Z Z (lb Z) Z λa f=> ?_
 unfold D.l1 at hd
 refine Ae (Ac f Z λa f=>AF (Ab f Z λa f=>Ab f Z λa f=>Bd hd λab ac hd=>A9 f Z call133 (Wk.B1 m h0 ac) λad ae af w ag m ah a f=> ?_))
 obtain⟨rfl,rfl⟩:=ah
 refine Ai f Z Z EA λa f=>Ac f Z λa f=>Aa (Ar ?_)
 obtain rfl:=sj hd
 exact⟨[(.bool (decide ((0:Int)≤ab)))],f.g Z,f.d,_,[ib b1c0 3 [iv aa]],ag,m,Z,Z⟩
set_option maxHeartbeats 1000000 in
theorem Wk.u {aa ab ac ad v2:Value}{ae af:LI}{ag ah:LL}{x1:Int}{x2:LI}{x3:Int}(m:Mem W G w (H))(ai:R1 G aa ae)(aj:R1 G ab af)(ak:R2 G ac ag)(al:R2 G ad ah)(h2:RSl (RI .u32) G v2 x2){y:Bool}(hd:D.u ae af ag ah x1 x2 x3=some y):
  Calls prog 46 #[(.agg #[aa,ab,ac,ad]),iv x1,v2,iv x3] w (Res W G H (λ_ Ho v=>Ho=[]∧v=(.bool y))):=by
 refine Au (args:=[(.agg #[aa,ab,ac,ad]),iv x1,v2,iv x3]) (N:=155) [.tmp 8] func46 Z Z (lb Z) Z λa f=> ?_
 unfold D.u at hd
 refine Ae (A3 (cs:=[aa,ab,ac,ad]) m f Z Z Z λam w a m f=>A3 (cs:=[iv x1]) m f Z Z Z λan w a m f=>Ac f Z λa f=>Aa (Ah (Bg 12 AV (by kernel_rfl) m (Br 0 12 underlying38 Z sizeOf35 Z f Z λa f=>Bo 1 12 1 AY Z Z Z f Z λa f=>Bo 2 12 0 Pl3 Z Z Z f Z λa f=>Bd hd λao ap hd=>Bb 3 12 T35 aj ap Z f Z Z λaq ar a au av f=> ?_))))
 subst av
 refine Ba 4 12 Pl2 au Z f Z λa f=>Br 5 12 underlying38 Z sizeOf27 Z f Z λa f=>Bo 6 12 1 AW Z Z Z f Z λa f=>Bo 7 12 0 Pl3 Z Z Z f Z λa f=>Bd hd λaw ax hd=>Bb 8 12 T27 al ax Z f Z Z λay az a aA aB f=>Ba 9 12 AY aA Z f Z λa f=>q_p 10 12 Z f (λ_=>Bq (f.e Z)) λa f=>q_p 11 12 Z f (λ_=>Bq (f.e Z)) λa f=>A4 λaC w aD m=>have ai:=rd1 aD ai;have h2:=rd1 aD h2;have aB:=rd1 aD aB;Aa (Ah (Ae (Ab f Z λa f=>Dl f Z Z Z λa f=>Bd hd λaE aF hd=>A9 f Z call108 (Wk.l1 m aB aF) λaG aH aI w aJ m aK a f=> ?_)))
 obtain⟨rfl,rfl⟩:=aK
 refine have ai:=rd1 aJ ai;have h2:=rd1 aJ h2;have aB:=rd1 aJ aB;Aa ?_
 rcases Ag hd with⟨aL,hd⟩|⟨aL,hd⟩
 ·refine Am f Z aL (Ae (Ac f Z λa f=>Aa (Ar (have m:=m.dp 2;?_))))
  obtain rfl:=sj hd
  exact⟨[(.bool false)],f.g Z,f.d,_,[],(gt aD aJ),m,Z,Z⟩
 ·refine Ak f Z aL (An (Ah (Ae (AQ underlying38 Z sizeOf35 f Z λa f=>Ao 1 0 m AY f Z Z Z Z λa f=>Ao 0 0 m Pl3 f Z Z Z Z λa f=>Bd hd λaM aN hd=>AX T35 f Z Z Z ai aN λaO aP a aQ aR f=> ?_))))
  subst aR
  refine Aw m Pl2 f Z Z aQ λa f=>Aa (Al (Ae (Ai f Z Z Bf λa f=>Ac f Z λa f=>Aa ?_)))
  rcases Ag hd with⟨aS,hd⟩|⟨aS,hd⟩
  ·refine Am f Z aS (Ae (Ab f Z λa f=>Ai f Z Z Bf λa f=>Ab f Z λa f=>Bd hd λaT aU hd=> ?_))
   refine Bk 6 (λa w=>∃aV,GLe aH aV∧Mem W aV w (ib an 3 [iv x1]::ib am 38 [aa,ab,ac,ad]::H)∧Fr a 155 [(0,(.agg #[aa,ab,ac,ad])),(1,iv x1),(2,v2),(3,iv x3),(4,pb am),(5,pb an),(9,iv ao),(10,az),(28,iv aM),(29,(.bool (aM==1))),(31,iv ao),(32,(.bool (ao==(-1)))),(33,(.bool (ao==(-1)))),(39,(.bool aT))]) ?_ ?_
   ·rcases Ag aU with⟨aW,aU⟩|⟨aW,aU⟩
    ·refine Ap f aW (Ab f Z λa f=>Ap f aW (Ao 0 0 m Pl3 f Z Z Z Z λa f=>Ap f aW (Bd aU λaX aY aU=>AX T65 f Z Z Z h2 aY λaZ a0 a a1 a2 f=> ?_)))
     subst a2
     refine Ap f aW (Aw m CU f Z Z a1 λa f=>Ap f aW (Ai f Z Z Bf λa f=>l_o f (AK (f.e Z) aW (f.e Z)) λa f=> ?_))
     obtain rfl:=sj aU
     exact⟨_,gr,m,f.k Z⟩
    ·refine Aq f aW λa f=>Aq f aW λa f=>Aq f aW λa f=>Aq f aW λa f=>Aq f aW λa f=>l_o f (AI (f.e Z) aW (f.e Z)) λa f=> ?_
     obtain rfl:=sj aU
     exact⟨_,gr,m,f.k Z⟩
   ·rintro a w ⟨aV,a3,m,f⟩
    refine have aB:=rd1 a3 aB;Ab f Z λa f=> ?_
    refine Bk 4 (λa w=>∃a4,GLe aV a4∧Mem W a4 w (ib an 3 [iv x1]::ib am 38 [aa,ab,ac,ad]::H)∧Fr a 155 [(0,(.agg #[aa,ab,ac,ad])),(1,iv x1),(2,v2),(3,iv x3),(4,pb am),(5,pb an),(9,iv ao),(10,az),(28,iv aM),(29,(.bool (aM==1))),(31,iv ao),(32,(.bool (ao==(-1)))),(33,(.bool (ao==(-1)))),(39,(.bool aT)),(40,(.bool aT)),(44,(.bool (aT&&((aw.length:Int)==0))))]) ?_ ?_
    ·rcases Bool.eq_false_or_eq_true aT with a5|a5
     ·exact Ap f a5 (Ab f Z λa f=>Ap f a5 (AN underlying35 f Z Z aB λa f=>Ap f a5 (Ai f Z Z Bf λa f=>l_o f (AK (f.e Z) a5 (f.e Z)) λa f=>⟨_,gr,m,f.weak ⟨Z,Z,Z,Z,Z,Z,Z,Z,Z,Z,Z,Z,Z,Z,Z,by rw[a5];rfl,trivial⟩⟩)))
     ·exact Aq f a5 λa f=>Aq f a5 λa f=>Aq f a5 λa f=>l_o f (AI (f.e Z) a5 (f.e Z)) λa f=>⟨_,gr,m,f.weak ⟨Z,Z,Z,Z,Z,Z,Z,Z,Z,Z,Z,Z,Z,Z,Z,by rw[a5];rfl,trivial⟩⟩
    ·rintro a w ⟨a4,a6,m,f⟩
     refine Ac f Z λa f=>Aa (Ar (have m:=m.dp 2;?_))
     obtain rfl:=sj hd
     exact⟨[(.bool (aT&&((aw.length:Int)==0)))],f.g Z,f.d,_,[],(gt aD (gt aJ (gt a3 a6))),m,Z,Z⟩
  ·refine Ak f Z aS (Ae (Ai f Z Z Bf λa f=>Ac f Z λa f=>Aa ?_))
   rcases Ag hd with⟨a7,hd⟩|⟨a7,hd⟩
   ·refine Am f Z a7 (Ah (Bg 34 AV (by kernel_rfl) m (As 0 34 Z f Z λa f=>q_p 1 34 Z f (λ_=>BB (f.e Z) (f.e Z) Bf) λa f=>As 2 34 Z f Z λa f=>CW (fuel':=27) (listed':= #[true,true,true,true,true,true,true,false,false,false,false,false,false,false,false,false,false,false,false,false,false,false,false,false,false,false,false,false,false,false,false,false,false,false]) (λa=>Fr a 155 [(0,(.agg #[aa,ab,ac,ad])),(1,iv x1),(2,v2),(3,iv x3),(4,pb am),(5,pb an),(9,iv ao),(10,az),(28,iv aM),(45,(.bool (aM==4))),(47,iv ao),(48,(.bool (ao==(-1)))),(49,(.bool (ao==(-1)))),(53,(.bool ((ao==(-1))&&((aw.length:Int)==2))))]) ?_ ?_)))
    ·intro a f
     refine As 7 34 Z f Z λa f=>Bd hd λa8 a9 hd=>CW (fuel':=14) (listed':= #[true,true,true,true,true,true,true,true,true,true,true,true,true,true,true,true,true,true,true,true,false,false,false,false,false,false,false,false,false,false,false,false,false,false]) (λa=>Fr a 155 [(0,(.agg #[aa,ab,ac,ad])),(1,iv x1),(2,v2),(3,iv x3),(4,pb am),(5,pb an),(9,iv ao),(10,az),(28,iv aM),(45,(.bool (aM==4))),(47,iv ao),(48,(.bool (ao==(-1)))),(49,(.bool (ao==(-1)))),(53,(.bool ((ao==(-1))&&((aw.length:Int)==2)))),(54,(.bool ((ao==(-1))&&((aw.length:Int)==2)))),(66,(.bool a8))]) ?_ ?_
     ·intro a f
      refine As 20 34 Z f Z λa f=>Bd hd λba bb hd=>CW (fuel':=1) (listed':= #[true,true,true,true,true,true,true,true,true,true,true,true,true,true,true,true,true,true,true,true,true,true,true,true,true,true,true,true,true,true,true,true,true,false]) (λa=>Fr a 155 [(0,(.agg #[aa,ab,ac,ad])),(1,iv x1),(2,v2),(3,iv x3),(4,pb am),(5,pb an),(9,iv ao),(10,az),(28,iv aM),(45,(.bool (aM==4))),(47,iv ao),(48,(.bool (ao==(-1)))),(49,(.bool (ao==(-1)))),(53,(.bool ((ao==(-1))&&((aw.length:Int)==2)))),(54,(.bool ((ao==(-1))&&((aw.length:Int)==2)))),(66,(.bool a8)),(67,(.bool a8)),(79,(.bool ba))]) ?_ ?_
      ·intro a f
       refine q_p 33 34 Z f (λ_=>Bq (f.e Z)) λa f=>A4 λbc w bd m=>Aa (Ar (have m:=m.dp 2;?_))
       obtain rfl:=sj hd
       exact⟨[(.bool ba)],f.g Z,f.d,_,[],(gt aD (gt aJ bd)),m,Z,Z⟩
      ·intro be
       rcases Ag bb with⟨bf,bb⟩|⟨bf,bb⟩
       ·refine As (hw:=wo f bf) 21 34 Z f Z λa f=>As (hw:=wo f bf) 22 34 Z f Z λa f=>Bd bb λbg bh bb=>Bb (hw:=wo f bf) 23 34 T35 aB bh Z f Z Z λbi bj a bk bl f=> ?_
        subst bl
        refine Ba (hw:=wo f bf) 24 34 Pl2 bk Z f Z λa f=>Bd bb λbm bn bb=>Bb (hw:=wo f bf) 25 34 T65 h2 bn Z f Z Z λbo bp a bq br f=> ?_
        subst br
        refine Ba (hw:=wo f bf) 26 34 CU bq Z f Z λa f=>As (hw:=wo f bf) 27 34 Z f Z λa f=>Bo (hw:=wo f bf) 28 34 0 Pl3 Z Z Z f Z λa f=>Bd bb λbs bt bb=>Bb (hw:=wo f bf) 29 34 T65 h2 bt Z f Z Z λbu bv a bw bx f=> ?_
        subst bx
        refine Ba (hw:=wo f bf) 30 34 CU bw Z f Z λa f=>q_p (hw:=wo f bf) 31 34 Z f (λ_=>BB (f.e Z) (f.e Z) Bf) λa f=>q_p 32 34 Z f (λ_=>AK (f.e Z) bf (f.e Z)) λa f=> ?_
        obtain rfl:=sj bb
        exact be _ (f.k Z)
       ·refine AA 21 34 Z f bf λa f=>AA 22 34 Z f bf λa f=>AA 23 34 Z f bf λa f=>AA 24 34 Z f bf λa f=>AA 25 34 Z f bf λa f=>AA 26 34 Z f bf λa f=>AA 27 34 Z f bf λa f=>AA 28 34 Z f bf λa f=>AA 29 34 Z f bf λa f=>AA 30 34 Z f bf λa f=>AA 31 34 Z f bf λa f=>q_p 32 34 Z f (λ_=>AI (f.e Z) bf (f.e Z)) λa f=> ?_
        obtain rfl:=sj bb
        exact be _ (f.k Z)
     ·intro bz
      rcases Ag a9 with⟨bA,a9⟩|⟨bA,a9⟩
      ·refine As (hw:=wo f bA) 8 34 Z f Z λa f=>As (hw:=wo f bA) 9 34 Z f Z λa f=>Bd a9 λbB bC a9=>Bb (hw:=wo f bA) 10 34 T35 aB bC Z f Z Z λbD bE a bF bG f=> ?_
       subst bG
       refine Ba (hw:=wo f bA) 11 34 Pl2 bF Z f Z λa f=>Bd a9 λbH bI a9=>Bb (hw:=wo f bA) 12 34 T65 h2 bI Z f Z Z λbJ bK a bL bM f=> ?_
       subst bM
       refine Ba (hw:=wo f bA) 13 34 CU bL Z f Z λa f=>As (hw:=wo f bA) 14 34 Z f Z λa f=>Bo (hw:=wo f bA) 15 34 0 Pl3 Z Z Z f Z λa f=>Bd a9 λbN bO a9=>Bb (hw:=wo f bA) 16 34 T65 h2 bO Z f Z Z λbP bQ a bR bS f=> ?_
       subst bS
       refine Ba (hw:=wo f bA) 17 34 CU bR Z f Z λa f=>q_p (hw:=wo f bA) 18 34 Z f (λ_=>BB (f.e Z) (f.e Z) Bf) λa f=>q_p 19 34 Z f (λ_=>AK (f.e Z) bA (f.e Z)) λa f=> ?_
       obtain rfl:=sj a9
       exact bz _ (f.k Z)
      ·refine AA 8 34 Z f bA λa f=>AA 9 34 Z f bA λa f=>AA 10 34 Z f bA λa f=>AA 11 34 Z f bA λa f=>AA 12 34 Z f bA λa f=>AA 13 34 Z f bA λa f=>AA 14 34 Z f bA λa f=>AA 15 34 Z f bA λa f=>AA 16 34 Z f bA λa f=>AA 17 34 Z f bA λa f=>AA 18 34 Z f bA λa f=>q_p 19 34 Z f (λ_=>AI (f.e Z) bA (f.e Z)) λa f=> ?_
       obtain rfl:=sj a9
       exact bz _ (f.k Z)
    ·intro bT
     rcases Bool.eq_false_or_eq_true (ao==(-1)) with bU|bU
     ·exact As (hw:=wo f bU) 3 34 Z f Z λa f=>DR (i:=4) 34 underlying35 aB Z (by kernel_rfl) Z f (Bs f Z Z Z bU) Z Z λa f=>q_p (hw:=wo f bU) 5 34 Z f (λ_=>BB (f.e Z) (f.e Z) Bf) λa f=>q_p 6 34 Z f (λ_=>AK (f.e Z) bU (f.e Z)) λa f=>bT _ (f.weak ⟨Z,Z,Z,Z,Z,Z,Z,Z,Z,Z,Z,Z,Z,by rw[bU];rfl,trivial⟩)
     ·exact AA 3 34 Z f bU λa f=>AA 4 34 Z f bU λa f=>AA 5 34 Z f bU λa f=>q_p 6 34 Z f (λ_=>AI (f.e Z) bU (f.e Z)) λa f=>bT _ (f.weak ⟨Z,Z,Z,Z,Z,Z,Z,Z,Z,Z,Z,Z,Z,by rw[bU];rfl,trivial⟩)
   ·refine Ak f Z a7 (Ae (Ai f Z Z Bf λa f=>Ac f Z λa f=>Aa ?_))
    rcases Ag hd with⟨bV,hd⟩|⟨bV,hd⟩
    ·refine Am f Z bV (Ah (Bg 37 AV (by kernel_rfl) m (As 0 37 Z f Z λa f=>As 1 37 Z f Z λa f=>q_p 2 37 Z f (λ_=>BB (f.e Z) (f.e Z) CA) λa f=>Bd hd λbW bX hd=>B4 (i:=3) 37 Z (by kernel_rfl) Z f Z Z Z call67 (λ_ _ w bY m=>Wk.t m bX) λa f=>As 4 37 Z f Z λa f=>CW (fuel':=28) (listed':= #[true,true,true,true,true,true,true,true,true,false,false,false,false,false,false,false,false,false,false,false,false,false,false,false,false,false,false,false,false,false,false,false,false,false,false,false,false]) (λa=>Fr a 155 [(0,(.agg #[aa,ab,ac,ad])),(1,iv x1),(2,v2),(3,iv x3),(4,pb am),(5,pb an),(9,iv ao),(10,az),(28,iv aM),(80,(.bool (aM==2))),(82,iv ao),(83,iv x3),(84,(iv (i64.wrap (x3-1)))),(85,(.bool bW)),(86,(.bool bW)),(90,(.bool (bW&&((aw.length:Int)==1))))]) ?_ ?_)))
     ·intro a f
      refine As 9 37 Z f Z λa f=>Bd hd λbZ b0 hd=>CW (fuel':=17) (listed':= #[true,true,true,true,true,true,true,true,true,true,true,true,true,true,true,true,true,true,true,true,false,false,false,false,false,false,false,false,false,false,false,false,false,false,false,false,false]) (λa=>Fr a 155 [(0,(.agg #[aa,ab,ac,ad])),(1,iv x1),(2,v2),(3,iv x3),(4,pb am),(5,pb an),(9,iv ao),(10,az),(28,iv aM),(80,(.bool (aM==2))),(82,iv ao),(83,iv x3),(84,(iv (i64.wrap (x3-1)))),(85,(.bool bW)),(86,(.bool bW)),(90,(.bool (bW&&((aw.length:Int)==1)))),(91,(.bool (bW&&((aw.length:Int)==1)))),(101,(.bool bZ))]) ?_ ?_
      ·intro a f
       refine As 20 37 Z f Z λa f=>Bd hd λb1 b2 hd=>CW (fuel':=1) (listed':= #[true,true,true,true,true,true,true,true,true,true,true,true,true,true,true,true,true,true,true,true,true,true,true,true,true,true,true,true,true,true,true,true,true,true,true,true,false]) (λa=>Fr a 155 [(0,(.agg #[aa,ab,ac,ad])),(1,iv x1),(2,v2),(3,iv x3),(4,pb am),(5,pb an),(9,iv ao),(10,az),(28,iv aM),(80,(.bool (aM==2))),(82,iv ao),(83,iv x3),(84,(iv (i64.wrap (x3-1)))),(85,(.bool bW)),(86,(.bool bW)),(90,(.bool (bW&&((aw.length:Int)==1)))),(91,(.bool (bW&&((aw.length:Int)==1)))),(101,(.bool bZ)),(102,(.bool bZ)),(117,(.bool b1))]) ?_ ?_
       ·intro a f
        refine q_p 36 37 Z f (λ_=>Bq (f.e Z)) λa f=>A4 λb3 w b4 m=>Aa (Ar (have m:=m.dp 2;?_))
        obtain rfl:=sj hd
        exact⟨[(.bool b1)],f.g Z,f.d,_,[],(gt aD (gt aJ b4)),m,Z,Z⟩
       ·intro b5
        rcases Ag b2 with⟨b6,b2⟩|⟨b6,b2⟩
        ·refine As (hw:=wo f b6) 21 37 Z f Z λa f=>Bo (hw:=wo f b6) 22 37 0 Pl3 Z Z Z f Z λa f=>Bd b2 λb7 b8 b2=>Bb (hw:=wo f b6) 23 37 T65 h2 b8 Z f Z Z λb9 ca a cb cc f=> ?_
         subst cc
         refine Ba (hw:=wo f b6) 24 37 CU cb Z f Z λa f=>As (hw:=wo f b6) 25 37 Z f Z λa f=>As (hw:=wo f b6) 26 37 Z f Z λa f=>Bd b2 λcd ce b2=>Bb (hw:=wo f b6) 27 37 T35 aB ce Z f Z Z λcf cg a ch ci f=> ?_
         subst ci
         refine Ba (hw:=wo f b6) 28 37 Pl2 ch Z f Z λa f=>Bd b2 λcj ck b2=>Bb (hw:=wo f b6) 29 37 T65 h2 ck Z f Z Z λcl cm a cn co f=> ?_
         subst co
         refine Ba (hw:=wo f b6) 30 37 CU cn Z f Z λa f=>As (hw:=wo f b6) 31 37 Z f Z λa f=>Bd b2 λcp cq b2=>B4 (i:=32) 37 Z (by kernel_rfl) Z f (Bs f Z Z Z b6) Z Z call91 (λ_ _ w cr m=>Wk.a m cq) λa f=>q_p (hw:=wo f b6) 33 37 Z f (λ_=>BB (f.e Z) (f.e Z) EK) λa f=>q_p (hw:=wo f b6) 34 37 Z f (λ_=>BB (f.e Z) (f.e Z) Bf) λa f=>q_p 35 37 Z f (λ_=>AK (f.e Z) b6 (f.e Z)) λa f=> ?_
         obtain rfl:=sj b2
         exact b5 _ (f.k Z)
        ·refine AA 21 37 Z f b6 λa f=>AA 22 37 Z f b6 λa f=>AA 23 37 Z f b6 λa f=>AA 24 37 Z f b6 λa f=>AA 25 37 Z f b6 λa f=>AA 26 37 Z f b6 λa f=>AA 27 37 Z f b6 λa f=>AA 28 37 Z f b6 λa f=>AA 29 37 Z f b6 λa f=>AA 30 37 Z f b6 λa f=>AA 31 37 Z f b6 λa f=>AA 32 37 Z f b6 λa f=>AA 33 37 Z f b6 λa f=>AA 34 37 Z f b6 λa f=>q_p 35 37 Z f (λ_=>AI (f.e Z) b6 (f.e Z)) λa f=> ?_
         obtain rfl:=sj b2
         exact b5 _ (f.k Z)
      ·intro ct
       rcases Ag b0 with⟨cu,b0⟩|⟨cu,b0⟩
       ·refine As (hw:=wo f cu) 10 37 Z f Z λa f=>As (hw:=wo f cu) 11 37 Z f Z λa f=>Bd b0 λcv cw b0=>Bb (hw:=wo f cu) 12 37 T35 aB cw Z f Z Z λcx cy a cz cA f=> ?_
        subst cA
        refine Ba (hw:=wo f cu) 13 37 Pl2 cz Z f Z λa f=>Bd b0 λcB cC b0=>Bb (hw:=wo f cu) 14 37 T65 h2 cC Z f Z Z λcD cE a cF cG f=> ?_
        subst cG
        refine Ba (hw:=wo f cu) 15 37 CU cF Z f Z λa f=>As (hw:=wo f cu) 16 37 Z f Z λa f=>Bd b0 λcH cI b0=>B4 (i:=17) 37 Z (by kernel_rfl) Z f (Bs f Z Z Z cu) Z Z call90 (λ_ _ w cJ m=>Wk.g m cI) λa f=>q_p (hw:=wo f cu) 18 37 Z f (λ_=>Bj (f.e Z)) λa f=>q_p 19 37 Z f (λ_=>AK (f.e Z) cu (f.e Z)) λa f=> ?_
        obtain rfl:=sj b0
        exact ct _ (f.k Z)
       ·refine AA 10 37 Z f cu λa f=>AA 11 37 Z f cu λa f=>AA 12 37 Z f cu λa f=>AA 13 37 Z f cu λa f=>AA 14 37 Z f cu λa f=>AA 15 37 Z f cu λa f=>AA 16 37 Z f cu λa f=>AA 17 37 Z f cu λa f=>AA 18 37 Z f cu λa f=>q_p 19 37 Z f (λ_=>AI (f.e Z) cu (f.e Z)) λa f=> ?_
        obtain rfl:=sj b0
        exact ct _ (f.k Z)
     ·intro cK
      rcases Bool.eq_false_or_eq_true bW with cL|cL
      ·exact As (hw:=wo f cL) 5 37 Z f Z λa f=>DR (i:=6) 37 underlying35 aB Z (by kernel_rfl) Z f (Bs f Z Z Z cL) Z Z λa f=>q_p (hw:=wo f cL) 7 37 Z f (λ_=>BB (f.e Z) (f.e Z) Bf) λa f=>q_p 8 37 Z f (λ_=>AK (f.e Z) cL (f.e Z)) λa f=>cK _ (f.weak ⟨Z,Z,Z,Z,Z,Z,Z,Z,Z,Z,Z,Z,Z,Z,Z,by rw[cL];rfl,trivial⟩)
      ·exact AA 5 37 Z f cL λa f=>AA 6 37 Z f cL λa f=>AA 7 37 Z f cL λa f=>q_p 8 37 Z f (λ_=>AI (f.e Z) cL (f.e Z)) λa f=>cK _ (f.weak ⟨Z,Z,Z,Z,Z,Z,Z,Z,Z,Z,Z,Z,Z,Z,Z,by rw[cL];rfl,trivial⟩)
    ·refine Ak f Z bV (Ae (Ai f Z Z Bf λa f=>Ac f Z λa f=>Aa ?_))
     rcases Ag hd with⟨cM,hd⟩|⟨cM,hd⟩
     ·refine Am f Z cM (Ah (Bg 36 AV (by kernel_rfl) m (As 0 36 Z f Z λa f=>As 1 36 Z f Z λa f=>q_p 2 36 Z f (λ_=>BB (f.e Z) (f.e Z) CA) λa f=>Bd hd λcN cO hd=>B4 (i:=3) 36 Z (by kernel_rfl) Z f Z Z Z call67 (λ_ _ w cP m=>Wk.t m cO) λa f=>As 4 36 Z f Z λa f=>CW (fuel':=27) (listed':= #[true,true,true,true,true,true,true,true,true,false,false,false,false,false,false,false,false,false,false,false,false,false,false,false,false,false,false,false,false,false,false,false,false,false,false,false]) (λa=>Fr a 155 [(0,(.agg #[aa,ab,ac,ad])),(1,iv x1),(2,v2),(3,iv x3),(4,pb am),(5,pb an),(9,iv ao),(10,az),(118,(.bool (aM==3))),(120,iv ao),(121,iv x3),(122,(iv (i64.wrap (x3-1)))),(123,(.bool cN)),(124,(.bool cN)),(128,(.bool (cN&&((aw.length:Int)==1))))]) ?_ ?_)))
      ·intro a f
       refine As 9 36 Z f Z λa f=>Bd hd λcQ cR hd=>CW (fuel':=17) (listed':= #[true,true,true,true,true,true,true,true,true,true,true,true,true,true,true,true,true,true,true,false,false,false,false,false,false,false,false,false,false,false,false,false,false,false,false,false]) (λa=>Fr a 155 [(0,(.agg #[aa,ab,ac,ad])),(1,iv x1),(2,v2),(3,iv x3),(4,pb am),(5,pb an),(9,iv ao),(10,az),(118,(.bool (aM==3))),(120,iv ao),(121,iv x3),(122,(iv (i64.wrap (x3-1)))),(123,(.bool cN)),(124,(.bool cN)),(128,(.bool (cN&&((aw.length:Int)==1)))),(129,(.bool (cN&&((aw.length:Int)==1)))),(138,(.bool cQ))]) ?_ ?_
       ·intro a f
        refine As 19 36 Z f Z λa f=>Bd hd λcS cT hd=>CW (fuel':=1) (listed':= #[true,true,true,true,true,true,true,true,true,true,true,true,true,true,true,true,true,true,true,true,true,true,true,true,true,true,true,true,true,true,true,true,true,true,true,false]) (λa=>Fr a 155 [(0,(.agg #[aa,ab,ac,ad])),(1,iv x1),(2,v2),(3,iv x3),(4,pb am),(5,pb an),(9,iv ao),(10,az),(118,(.bool (aM==3))),(120,iv ao),(121,iv x3),(122,(iv (i64.wrap (x3-1)))),(123,(.bool cN)),(124,(.bool cN)),(128,(.bool (cN&&((aw.length:Int)==1)))),(129,(.bool (cN&&((aw.length:Int)==1)))),(138,(.bool cQ)),(139,(.bool cQ)),(154,(.bool cS))]) ?_ ?_
        ·intro a f
         refine q_p 35 36 Z f (λ_=>Bq (f.e Z)) λa f=>A4 λcU w cV m=>Aa (Ar (have m:=m.dp 2;?_))
         obtain rfl:=sj hd
         exact⟨[(.bool cS)],f.g Z,f.d,_,[],(gt aD (gt aJ cV)),m,Z,Z⟩
        ·intro cW
         rcases Ag cT with⟨cX,cT⟩|⟨cX,cT⟩
         ·refine As (hw:=wo f cX) 20 36 Z f Z λa f=>Bo (hw:=wo f cX) 21 36 0 Pl3 Z Z Z f Z λa f=>Bd cT λcY cZ cT=>Bb (hw:=wo f cX) 22 36 T65 h2 cZ Z f Z Z λc0 c1 a c2 c3 f=> ?_
          subst c3
          refine Ba (hw:=wo f cX) 23 36 CU c2 Z f Z λa f=>As (hw:=wo f cX) 24 36 Z f Z λa f=>As (hw:=wo f cX) 25 36 Z f Z λa f=>Bd cT λc4 c5 cT=>Bb (hw:=wo f cX) 26 36 T35 aB c5 Z f Z Z λc6 c7 a c8 c9 f=> ?_
          subst c9
          refine Ba (hw:=wo f cX) 27 36 Pl2 c8 Z f Z λa f=>Bd cT λda db cT=>Bb (hw:=wo f cX) 28 36 T65 h2 db Z f Z Z λdc dd a de df f=> ?_
          subst df
          refine Ba (hw:=wo f cX) 29 36 CU de Z f Z λa f=>As (hw:=wo f cX) 30 36 Z f Z λa f=>Bd cT λdg dh cT=>B4 (i:=31) 36 Z (by kernel_rfl) Z f (Bs f Z Z Z cX) Z Z call91 (λ_ _ w di m=>Wk.a m dh) λa f=>q_p (hw:=wo f cX) 32 36 Z f (λ_=>BB (f.e Z) (f.e Z) Dw) λa f=>q_p (hw:=wo f cX) 33 36 Z f (λ_=>BB (f.e Z) (f.e Z) Bf) λa f=>q_p 34 36 Z f (λ_=>AK (f.e Z) cX (f.e Z)) λa f=> ?_
          obtain rfl:=sj cT
          exact cW _ (f.k Z)
         ·refine AA 20 36 Z f cX λa f=>AA 21 36 Z f cX λa f=>AA 22 36 Z f cX λa f=>AA 23 36 Z f cX λa f=>AA 24 36 Z f cX λa f=>AA 25 36 Z f cX λa f=>AA 26 36 Z f cX λa f=>AA 27 36 Z f cX λa f=>AA 28 36 Z f cX λa f=>AA 29 36 Z f cX λa f=>AA 30 36 Z f cX λa f=>AA 31 36 Z f cX λa f=>AA 32 36 Z f cX λa f=>AA 33 36 Z f cX λa f=>q_p 34 36 Z f (λ_=>AI (f.e Z) cX (f.e Z)) λa f=> ?_
          obtain rfl:=sj cT
          exact cW _ (f.k Z)
       ·intro dj
        rcases Ag cR with⟨dk,cR⟩|⟨dk,cR⟩
        ·refine As (hw:=wo f dk) 10 36 Z f Z λa f=>As (hw:=wo f dk) 11 36 Z f Z λa f=>Bd cR λdl dm cR=>Bb (hw:=wo f dk) 12 36 T35 aB dm Z f Z Z λdn dq a dr ds f=> ?_
         subst ds
         refine Ba (hw:=wo f dk) 13 36 Pl2 dr Z f Z λa f=>Bd cR λdt du cR=>Bb (hw:=wo f dk) 14 36 T65 h2 du Z f Z Z λdv dw a dx dy f=> ?_
         subst dy
         refine Ba (hw:=wo f dk) 15 36 CU dx Z f Z λa f=>As (hw:=wo f dk) 16 36 Z f Z λa f=>Bd cR λdz dA cR=>B4 (i:=17) 36 Z (by kernel_rfl) Z f (Bs f Z Z Z dk) Z Z call90 (λ_ _ w dB m=>Wk.g m dA) λa f=>q_p 18 36 Z f (λ_=>AK (f.e Z) dk (f.e Z)) λa f=> ?_
         obtain rfl:=sj cR
         exact dj _ (f.k Z)
        ·refine AA 10 36 Z f dk λa f=>AA 11 36 Z f dk λa f=>AA 12 36 Z f dk λa f=>AA 13 36 Z f dk λa f=>AA 14 36 Z f dk λa f=>AA 15 36 Z f dk λa f=>AA 16 36 Z f dk λa f=>AA 17 36 Z f dk λa f=>q_p 18 36 Z f (λ_=>AI (f.e Z) dk (f.e Z)) λa f=> ?_
         obtain rfl:=sj cR
         exact dj _ (f.k Z)
      ·intro dC
       rcases Bool.eq_false_or_eq_true cN with dD|dD
       ·exact As (hw:=wo f dD) 5 36 Z f Z λa f=>DR (i:=6) 36 underlying35 aB Z (by kernel_rfl) Z f (Bs f Z Z Z dD) Z Z λa f=>q_p (hw:=wo f dD) 7 36 Z f (λ_=>BB (f.e Z) (f.e Z) Bf) λa f=>q_p 8 36 Z f (λ_=>AK (f.e Z) dD (f.e Z)) λa f=>dC _ (f.weak ⟨Z,Z,Z,Z,Z,Z,Z,Z,Z,Z,Z,Z,Z,Z,by rw[dD];rfl,trivial⟩)
       ·exact AA 5 36 Z f dD λa f=>AA 6 36 Z f dD λa f=>AA 7 36 Z f dD λa f=>q_p 8 36 Z f (λ_=>AI (f.e Z) dD (f.e Z)) λa f=>dC _ (f.weak ⟨Z,Z,Z,Z,Z,Z,Z,Z,Z,Z,Z,Z,Z,Z,by rw[dD];rfl,trivial⟩)
     ·refine Ak f Z cM (An (Ae (Ac f Z λa f=>Aa (Ar (have m:=m.dp 2;?_)))))
      obtain rfl:=sj hd
      exact⟨[(.bool false)],f.g Z,f.d,_,[],(gt aD aJ),m,Z,Z⟩
theorem Wk.K1 {x0:Int}(m:Mem W G w (H)){y:Bool}(hd:D.K1 x0=some y):
  Calls prog 48 #[iv x0] w (Res W G H (λ_ Ho v=>Ho=[]∧v=(.bool y))):=by
 refine Au (args:=[iv x0]) (N:=5) [.tmp 2] func48 Z Z (lb Z) Z λa f=> ?_
 unfold D.K1 at hd
 refine Ae (Ac f Z λa f=>AF (Ab f Z λa f=>Ai f Z Z Cw λa f=>Ac f Z λa f=>Aa (Ar ?_)))
 obtain rfl:=sj hd
 exact⟨[(.bool (x0 !=1))],f.g Z,f.d,_,[],gr,m,Z,Z⟩
theorem Wk.H1 {v0:Value}{x0:LI}(m:Mem W G w (H))(h0:R1 G v0 x0){y:Int}(hd:D.H1 x0=some y):
  Calls prog 110 #[v0,Fv 48] w (Res W G H (λ_ Ho v=>Ho=[]∧v=(iv y))):=by
 refine Au (args:=[v0,Fv 48]) (N:=19) [.tmp 4] func110 Z Z (lb Z) Z λa f=> ?_
 unfold D.H1 at hd
 refine Ae (Ac f Z λa f=>Aa (Ah (Ae (Ab f Z λa f=>AN underlying82 f Z Z h0 λa f=>Ab f Z λa f=>Aa (Bd hd λaa ab hd=> ?_)))))
 refine AL (λa w=>∃q_33':Unit,aa= .inl q_33'∧∃(ac:GH),GLe G ac∧Fr a 19 []∧Mem W ac w (H)) ?_ ?_
 ·refine Al (AM (λad a w=>∃ae:Int,ae=ad∧∃(af:GH),GLe G af∧Fr a 19 [(0,v0),(1,Fv 48),(7,(iv (x0.length:Int))),(8,iv ae)]∧Mem W af w (H)) ab ⟨_,Z,_,gr,f.k Z,m⟩ ?_)
  clear ab f m
  rintro ad ag ah ai a w ⟨ae,rfl,af,aj,f,m⟩
  refine have h0:=rd1 aj h0;Ae (Ai f Z Z AP λa f=>Aa (Ah ?_))
  rcases Ag ah with⟨ak,ah⟩|⟨ak,ah⟩
  ·refine Am f Z ak (An (Ah (Al (Ae (Ab f Z λa f=>Ac f Z λa f=>AF (Ab f Z λa f=>Ab f Z λa f=>Ab f Z λa f=>Bd ah λal am ah=>AX T82 f Z Z Z h0 am λan ao a ap aq f=> ?_))))))
   subst aq
   refine Aw m Pl3 f Z Z ap λa f=>Bd ah λar au ah=>CC f Z Z Z call48 (Wk.K1 m au) λav aw ax w ay m az a f=> ?_
   obtain⟨rfl,rfl⟩:=az
   refine Aa ?_
   rcases Ag ah with⟨aA,ah⟩|⟨aA,ah⟩
   ·refine Am f Z aA (Ae (Ab f Z λa f=>Ac f Z λa f=>Aa (Ar ?_)))
    obtain rfl:=sj ah
    obtain rfl:=ai _ rfl
    obtain rfl:=sj hd
    exact⟨[iv ae],f.g Z,f.d,_,[],(gt aj ay),m,Z,Z⟩
   ·refine Ak f Z aA (An (Aj (Ai f Z Z AB λa f=>Ab f Z λa f=>Aa ?_)))
    obtain rfl:=sj ah
    exact⟨_,Z,_,Z,_,(gt aj ay),f.k Z,m⟩
  ·refine Ak f Z ak (AE Z ?_)
   obtain rfl:=sj ah
   obtain rfl:=ai _ rfl
   exact⟨_,Z,_,aj,f.weak trivial,m⟩
 ·rintro a w ⟨_,rfl,ac,aB,f,m⟩
  refine Ae (Ac f Z λa f=>Aa (Ar ?_))
  obtain rfl:=sj hd
  exact⟨[(iv (-1))],f.g Z,f.d,_,[],aB,m,Z,Z⟩
theorem Wk.o1 {v0:Value}{x0:LI}(m:Mem W G w (H))(h0:R1 G v0 x0){y:Bool}(hd:D.o1 x0=some y):
  Calls prog 47 #[v0,Fv 48] w (Res W G H (λ_ Ho v=>Ho=[]∧v=(.bool y))):=by
 refine Au (args:=[v0,Fv 48]) (N:=9) [.tmp 4] func47 Z Z (lb Z) Z λa f=> ?_
 unfold D.o1 at hd
 refine Ae (Ac f Z λa f=>AF (Ab f Z λa f=>Ab f Z λa f=>Bd hd λaa ab hd=>A2 f Z call110 (Wk.H1 m h0 ab) λac w ad m a f=>Ai f Z Z EA λa f=>Ac f Z λa f=>Aa (Ar ?_)))
 obtain rfl:=sj hd
 exact⟨[(.bool (decide ((0:Int)≤aa)))],f.g Z,f.d,_,[],ad,m,Z,Z⟩
set_option maxHeartbeats 1000000 in
theorem Wk.j {aa ab ac ad ae:Value}{af:LL}{ag ah:LI}{ai aj:LL}(m:Mem W G w (H))(ak:R2 G aa af)(al:R1 G ab ag)(am:R1 G ac ah)(an:R2 G ad ai)(ao:R2 G ae aj){y:Bool}(hd:D.j af ag ah ai aj=some y):
  Calls prog 12 #[(.agg #[aa]),(.agg #[ab,ac,ad,ae])] w (Res W G H (λ_ Ho v=>Ho=[]∧v=(.bool y))):=by
 refine Au (args:=[(.agg #[aa]),(.agg #[ab,ac,ad,ae])]) (N:=159) [.tmp 4] func12 Z Z (lb Z) Z λa f=> ?_
 unfold D.j at hd
 refine Ae (A3 (cs:=[aa]) m f Z Z Z λap w a m f=>A3 (cs:=[ab,ac,ad,ae]) m f Z Z Z λaq w a m f=>Ac f Z λa f=>AF (AQ underlying38 Z sizeOf35 f Z λa f=>Ao 0 0 m AY f Z Z Z Z λa f=>AN underlying35 f Z Z al λa f=>Ac f Z λa f=>Aa (Ah (Ae (Ay 1 0 (ds:=[aa]) m Bh f Z Z Z Z Z λa f=>Bd hd λar au hd=>A2 f Z call44 (Wk.w0 m ak au) λav w aw m a f=>have ak:=rd2 aw ak;have al:=rd1 aw al;have am:=rd1 aw am;have an:=rd2 aw an;have ao:=rd2 aw ao;l_o f (Bj (f.e Z)) λa f=>Ab f Z λa f=> ?_)))))
 refine Bk 3 (λa w=>∃ax,GLe av ax∧Mem W ax w (ib aq 38 [ab,ac,ad,ae]::ib ap 29 [aa]::H)∧Fr a 159 [(0,(.agg #[aa])),(1,(.agg #[ab,ac,ad,ae])),(2,pb ap),(3,pb aq),(5,(iv (ag.length:Int))),(20,(.agg #[aa])),(21,(.bool ar)),(22,(.bool (!ar))),(23,(.bool (!ar))),(26,(.bool ((!ar)||(decide ((ag.length:Int)<1)))))]) ?_ ?_
 ·rcases Bool.eq_false_or_eq_true (!ar) with ay|ay
  ·exact Aq f ay λa f=>Aq f ay λa f=>l_o f (AK (f.e Z) ay (f.e Z)) λa f=>⟨_,gr,m,f.weak ⟨Z,Z,Z,Z,Z,Z,Z,Z,Z,by rw[ay];rfl,trivial⟩⟩
  ·exact Ap f ay (Ab f Z λa f=>Ap f ay (Ai f Z Z AP λa f=>l_o f (AI (f.e Z) ay (f.e Z)) λa f=>⟨_,gr,m,f.weak ⟨Z,Z,Z,Z,Z,Z,Z,Z,Z,by rw[ay];rfl,trivial⟩⟩))
 ·rintro a w ⟨ax,az,m,f⟩
  refine have ak:=rd2 az ak;have al:=rd1 az al;have am:=rd1 az am;have an:=rd2 az an;have ao:=rd2 az ao;Ab f Z λa f=> ?_
  refine Bk 3 (λa w=>∃aA,GLe ax aA∧Mem W aA w (ib aq 38 [ab,ac,ad,ae]::ib ap 29 [aa]::H)∧Fr a 159 [(0,(.agg #[aa])),(1,(.agg #[ab,ac,ad,ae])),(2,pb ap),(3,pb aq),(5,(iv (ag.length:Int))),(20,(.agg #[aa])),(21,(.bool ar)),(22,(.bool (!ar))),(23,(.bool (!ar))),(26,(.bool ((!ar)||(decide ((ag.length:Int)<1))))),(27,(.bool ((!ar)||(decide ((ag.length:Int)<1))))),(30,(.bool (((!ar)||(decide ((ag.length:Int)<1)))||(decide ((200:Int)<(ag.length:Int))))))]) ?_ ?_
  ·rcases Bool.eq_false_or_eq_true ((!ar)||(decide ((ag.length:Int)<1))) with aB|aB
   ·exact Aq f aB λa f=>Aq f aB λa f=>l_o f (AK (f.e Z) aB (f.e Z)) λa f=>⟨_,gr,m,f.weak ⟨Z,Z,Z,Z,Z,Z,Z,Z,Z,Z,Z,by rw[aB];rfl,trivial⟩⟩
   ·exact Ap f aB (Ab f Z λa f=>Ap f aB (Ai f Z Z CK λa f=>l_o f (AI (f.e Z) aB (f.e Z)) λa f=>⟨_,gr,m,f.weak ⟨Z,Z,Z,Z,Z,Z,Z,Z,Z,Z,Z,by rw[aB];rfl,trivial⟩⟩))
  ·rintro a w ⟨aA,aC,m,f⟩
   refine have ak:=rd2 aC ak;have al:=rd1 aC al;have am:=rd1 aC am;have an:=rd2 aC an;have ao:=rd2 aC ao;Ab f Z λa f=> ?_
   refine Bk 6 (λa w=>∃aD,GLe aA aD∧Mem W aD w (ib aq 38 [ab,ac,ad,ae]::ib ap 29 [aa]::H)∧Fr a 159 [(0,(.agg #[aa])),(1,(.agg #[ab,ac,ad,ae])),(2,pb ap),(3,pb aq),(5,(iv (ag.length:Int))),(20,(.agg #[aa])),(21,(.bool ar)),(22,(.bool (!ar))),(23,(.bool (!ar))),(26,(.bool ((!ar)||(decide ((ag.length:Int)<1))))),(27,(.bool ((!ar)||(decide ((ag.length:Int)<1))))),(30,(.bool (((!ar)||(decide ((ag.length:Int)<1)))||(decide ((200:Int)<(ag.length:Int)))))),(31,(.bool (((!ar)||(decide ((ag.length:Int)<1)))||(decide ((200:Int)<(ag.length:Int)))))),(37,(.bool ((((!ar)||(decide ((ag.length:Int)<1)))||(decide ((200:Int)<(ag.length:Int))))||((ah.length:Int) !=(ag.length:Int)))))]) ?_ ?_
   ·rcases Bool.eq_false_or_eq_true (((!ar)||(decide ((ag.length:Int)<1)))||(decide ((200:Int)<(ag.length:Int)))) with aE|aE
    ·exact Aq f aE λa f=>Aq f aE λa f=>Aq f aE λa f=>Aq f aE λa f=>Aq f aE λa f=>l_o f (AK (f.e Z) aE (f.e Z)) λa f=>⟨_,gr,m,f.weak ⟨Z,Z,Z,Z,Z,Z,Z,Z,Z,Z,Z,Z,Z,by rw[aE];rfl,trivial⟩⟩
    ·exact Ap f aE (AQ underlying38 Z sizeOf35 f Z λa f=>Ap f aE (Ao 0 1 m AY f Z Z Z Z λa f=>Ap f aE (AN underlying35 f Z Z am λa f=>Ap f aE (Ab f Z λa f=>Ap f aE (Ai f Z Z Cw λa f=>l_o f (AI (f.e Z) aE (f.e Z)) λa f=>⟨_,gr,m,f.weak ⟨Z,Z,Z,Z,Z,Z,Z,Z,Z,Z,Z,Z,Z,by rw[aE];rfl,trivial⟩⟩)))))
   ·rintro a w ⟨aD,aF,m,f⟩
    refine have ak:=rd2 aF ak;have al:=rd1 aF al;have am:=rd1 aF am;have an:=rd2 aF an;have ao:=rd2 aF ao;Ab f Z λa f=> ?_
    refine Bk 6 (λa w=>∃aG,GLe aD aG∧Mem W aG w (ib aq 38 [ab,ac,ad,ae]::ib ap 29 [aa]::H)∧Fr a 159 [(0,(.agg #[aa])),(1,(.agg #[ab,ac,ad,ae])),(2,pb ap),(3,pb aq),(5,(iv (ag.length:Int))),(20,(.agg #[aa])),(21,(.bool ar)),(22,(.bool (!ar))),(23,(.bool (!ar))),(26,(.bool ((!ar)||(decide ((ag.length:Int)<1))))),(27,(.bool ((!ar)||(decide ((ag.length:Int)<1))))),(30,(.bool (((!ar)||(decide ((ag.length:Int)<1)))||(decide ((200:Int)<(ag.length:Int)))))),(31,(.bool (((!ar)||(decide ((ag.length:Int)<1)))||(decide ((200:Int)<(ag.length:Int)))))),(37,(.bool ((((!ar)||(decide ((ag.length:Int)<1)))||(decide ((200:Int)<(ag.length:Int))))||((ah.length:Int) !=(ag.length:Int))))),(38,(.bool ((((!ar)||(decide ((ag.length:Int)<1)))||(decide ((200:Int)<(ag.length:Int))))||((ah.length:Int) !=(ag.length:Int))))),(44,(.bool (((((!ar)||(decide ((ag.length:Int)<1)))||(decide ((200:Int)<(ag.length:Int))))||((ah.length:Int) !=(ag.length:Int)))||((ai.length:Int) !=(ag.length:Int)))))]) ?_ ?_
    ·rcases Bool.eq_false_or_eq_true ((((!ar)||(decide ((ag.length:Int)<1)))||(decide ((200:Int)<(ag.length:Int))))||((ah.length:Int) !=(ag.length:Int))) with aH|aH
     ·exact Aq f aH λa f=>Aq f aH λa f=>Aq f aH λa f=>Aq f aH λa f=>Aq f aH λa f=>l_o f (AK (f.e Z) aH (f.e Z)) λa f=>⟨_,gr,m,f.weak ⟨Z,Z,Z,Z,Z,Z,Z,Z,Z,Z,Z,Z,Z,Z,Z,by rw[aH];rfl,trivial⟩⟩
     ·exact Ap f aH (AQ underlying38 Z sizeOf27 f Z λa f=>Ap f aH (Ao 0 2 m AW f Z Z Z Z λa f=>Ap f aH (AN underlying27 f Z Z an λa f=>Ap f aH (Ab f Z λa f=>Ap f aH (Ai f Z Z Cw λa f=>l_o f (AI (f.e Z) aH (f.e Z)) λa f=>⟨_,gr,m,f.weak ⟨Z,Z,Z,Z,Z,Z,Z,Z,Z,Z,Z,Z,Z,Z,Z,by rw[aH];rfl,trivial⟩⟩)))))
    ·rintro a w ⟨aG,aI,m,f⟩
     refine have ak:=rd2 aI ak;have al:=rd1 aI al;have am:=rd1 aI am;have an:=rd2 aI an;have ao:=rd2 aI ao;Ab f Z λa f=> ?_
     refine Bk 6 (λa w=>∃aJ,GLe aG aJ∧Mem W aJ w (ib aq 38 [ab,ac,ad,ae]::ib ap 29 [aa]::H)∧Fr a 159 [(0,(.agg #[aa])),(1,(.agg #[ab,ac,ad,ae])),(2,pb ap),(3,pb aq),(5,(iv (ag.length:Int))),(20,(.agg #[aa])),(21,(.bool ar)),(22,(.bool (!ar))),(23,(.bool (!ar))),(26,(.bool ((!ar)||(decide ((ag.length:Int)<1))))),(27,(.bool ((!ar)||(decide ((ag.length:Int)<1))))),(30,(.bool (((!ar)||(decide ((ag.length:Int)<1)))||(decide ((200:Int)<(ag.length:Int)))))),(31,(.bool (((!ar)||(decide ((ag.length:Int)<1)))||(decide ((200:Int)<(ag.length:Int)))))),(37,(.bool ((((!ar)||(decide ((ag.length:Int)<1)))||(decide ((200:Int)<(ag.length:Int))))||((ah.length:Int) !=(ag.length:Int))))),(38,(.bool ((((!ar)||(decide ((ag.length:Int)<1)))||(decide ((200:Int)<(ag.length:Int))))||((ah.length:Int) !=(ag.length:Int))))),(44,(.bool (((((!ar)||(decide ((ag.length:Int)<1)))||(decide ((200:Int)<(ag.length:Int))))||((ah.length:Int) !=(ag.length:Int)))||((ai.length:Int) !=(ag.length:Int))))),(45,(.bool (((((!ar)||(decide ((ag.length:Int)<1)))||(decide ((200:Int)<(ag.length:Int))))||((ah.length:Int) !=(ag.length:Int)))||((ai.length:Int) !=(ag.length:Int))))),(51,(.bool ((((((!ar)||(decide ((ag.length:Int)<1)))||(decide ((200:Int)<(ag.length:Int))))||((ah.length:Int) !=(ag.length:Int)))||((ai.length:Int) !=(ag.length:Int)))||((aj.length:Int) !=(ag.length:Int)))))]) ?_ ?_
     ·rcases Bool.eq_false_or_eq_true (((((!ar)||(decide ((ag.length:Int)<1)))||(decide ((200:Int)<(ag.length:Int))))||((ah.length:Int) !=(ag.length:Int)))||((ai.length:Int) !=(ag.length:Int))) with aK|aK
      ·exact Aq f aK λa f=>Aq f aK λa f=>Aq f aK λa f=>Aq f aK λa f=>Aq f aK λa f=>l_o f (AK (f.e Z) aK (f.e Z)) λa f=>⟨_,gr,m,f.weak ⟨Z,Z,Z,Z,Z,Z,Z,Z,Z,Z,Z,Z,Z,Z,Z,Z,Z,by rw[aK];rfl,trivial⟩⟩
      ·exact Ap f aK (AQ underlying38 Z sizeOf27 f Z λa f=>Ap f aK (Ao 0 3 m AW f Z Z Z Z λa f=>Ap f aK (AN underlying27 f Z Z ao λa f=>Ap f aK (Ab f Z λa f=>Ap f aK (Ai f Z Z Cw λa f=>l_o f (AI (f.e Z) aK (f.e Z)) λa f=>⟨_,gr,m,f.weak ⟨Z,Z,Z,Z,Z,Z,Z,Z,Z,Z,Z,Z,Z,Z,Z,Z,Z,by rw[aK];rfl,trivial⟩⟩)))))
     ·rintro a w ⟨aJ,aL,m,f⟩
      refine have ak:=rd2 aL ak;have al:=rd1 aL al;have am:=rd1 aL am;have an:=rd2 aL an;have ao:=rd2 aL ao;Aa ?_
      rcases Ag hd with⟨aM,hd⟩|⟨aM,hd⟩
      ·refine Am f Z aM (Ae (Ac f Z λa f=>Aa (Ar (have m:=m.dp 2;?_))))
       obtain rfl:=sj hd
       exact⟨[(.bool false)],f.g Z,f.d,_,[],(gt aw (gt az (gt aC (gt aF (gt aI aL))))),m,Z,Z⟩
      ·refine Ak f Z aM (An (Ae (AQ underlying29 Z sizeOf27 f Z λa f=>Ao 1 0 m AW f Z Z Z Z λa f=>AN underlying27 f Z Z ak λa f=>Ac f Z λa f=>Aa (Ah (Ae (AQ underlying38 Z sizeOf27 f Z λa f=>Ao 0 2 m AW f Z Z Z Z λa f=>AN underlying27 f Z Z an λa f=>Ab f Z λa f=>Aa (Bd hd λaN aO hd=> ?_)))))))
       refine AL (λa w=>∃q_98':Unit,aN= .inl q_98'∧∃(aP:GH),GLe aJ aP∧Fr a 159 [(2,pb ap),(3,pb aq),(5,(iv (ag.length:Int))),(6,(iv (af.length:Int)))]∧Mem W aP w (ib ap 29 [aa]::ib aq 38 [ab,ac,ad,ae]::H)) ?_ ?_
       ·refine Al (have m:=m.fr 1;AM (λaQ a w=>∃aR:Int,aR=aQ∧∃(aS:GH),GLe aJ aS∧Fr a 159 [(2,pb ap),(3,pb aq),(5,(iv (ag.length:Int))),(6,(iv (af.length:Int))),(56,ad),(57,(iv (ai.length:Int))),(58,iv aR)]∧Mem W aS w (ib ap 29 [aa]::ib aq 38 [ab,ac,ad,ae]::H)) aO ⟨_,Z,_,gr,f.k Z,m⟩ ?_)
        clear aO f m
        rintro aQ aT aU aV a w ⟨aR,rfl,aS,aW,f,m⟩
        refine have an:=rd2 aW an;Ae (Ai f Z Z AP λa f=>Aa (Ah ?_))
        rcases Ag aU with⟨aX,aU⟩|⟨aX,aU⟩
        ·refine Am f Z aX (An (Ah (Al (Ae (Bd aU λaY aZ aU=>AX T27 f Z Z Z an aZ λa0 a1 a a2 a3 f=>Aw m AY f Z Z a2 λa f=>Ac f Z λa f=>AF (Ab f Z λa f=>AN underlying35 f Z Z a3 λa f=>Ai f Z Z CK λa f=>Ab f Z λa f=>Bd aU λa4 a5 aU=> ?_))))))
         refine Bk 5 (λa w=>∃a6,GLe aS a6∧Mem W a6 w (ib ap 29 [aa]::ib aq 38 [ab,ac,ad,ae]::H)∧Fr a 159 [(2,pb ap),(3,pb aq),(5,(iv (ag.length:Int))),(6,(iv (af.length:Int))),(8,a1),(56,ad),(57,(iv (ai.length:Int))),(58,iv aR),(62,a1),(63,(iv (aY.length:Int))),(64,(.bool (decide ((8:Int)<(aY.length:Int))))),(65,(.bool (decide ((8:Int)<(aY.length:Int))))),(70,(.bool a4))]) ?_ ?_
         ·rcases Ag a5 with⟨a7,a5⟩|⟨a7,a5⟩
          ·refine Aq f a7 λa f=>Aq f a7 λa f=>Aq f a7 λa f=>Aq f a7 λa f=>l_o f (AK (f.e Z) a7 (f.e Z)) λa f=> ?_
           obtain rfl:=sj a5
           exact⟨_,gr,m,f.k Z⟩
          ·refine Ap f a7 (Ab f Z λa f=>Ap f a7 (Ab f Z λa f=>Ap f a7 (Bd a5 λa8 a9 a5=>A2 f Z call45 (Wk.R m a3 a9) λba w bb m a f=>Ap f a7 (l_o f (Bj (f.e Z)) λa f=>l_o f (AI (f.e Z) a7 (f.e Z)) λa f=> ?_))))
           obtain rfl:=sj a5
           exact⟨_,bb,m,f.k Z⟩
         ·rintro a w ⟨a6,bc,m,f⟩
          refine Aa ?_
          rcases Ag aU with⟨bd,aU⟩|⟨bd,aU⟩
          ·refine Am f Z bd (Ae (Ac f Z λa f=>Aa (Ar (have m:=m.dp 2;?_))))
           obtain rfl:=sj aU
           obtain rfl:=aV _ rfl
           obtain rfl:=sj hd
           exact⟨[(.bool false)],f.g Z,f.d,_,[],(gt aw (gt az (gt aC (gt aF (gt aI (gt aL (gt aW bc))))))),m,Z,Z⟩
          ·refine Ak f Z bd (An (Aj (Ai f Z Z AB λa f=>Ab f Z λa f=>Aa ?_)))
           obtain rfl:=sj aU
           exact⟨_,Z,_,Z,_,(gt aW bc),f.k Z,m⟩
        ·refine Ak f Z aX (AE Z ?_)
         obtain rfl:=sj aU
         obtain rfl:=aV _ rfl
         exact⟨_,Z,_,aW,f.k Z,m⟩
       ·rintro a w ⟨_,rfl,aP,be,f,m⟩
        refine have ak:=rd2 be ak;have al:=rd1 be al;have am:=rd1 be am;have an:=rd2 be an;have ao:=rd2 be ao;Ah (Bd hd λbf bg hd=> ?_)
        refine AL (λa w=>∃bh:LI,∃bi:LI,∃bj:LI,(bh,bi,bj)=bf∧∃(bk:GH) (bl:Value) (bm:Itm) (bn:Value) (bo:Itm) (bp:Value) (bq:Itm),GLe aP bk∧Fr a 159 [(2,pb ap),(3,pb aq),(5,(iv (ag.length:Int))),(6,(iv (af.length:Int))),(9,bl),(10,bn),(11,bp)]∧Mem W bk w (ib ap 29 [aa]::ib aq 38 [ab,ac,ad,ae]::bm::bo::bq::H)∧Ow (RI .u32) 74 bk bm bl bh∧Ow R0 3 bk bo bn bi∧Ow R0 3 bk bq bp bj) ?_ ?_
        ·refine Bg 9 AV (by kernel_rfl) m (Br 0 9 underlying38 Z sizeOf27 Z f Z λa f=>Bo 1 9 1 AW Z Z Z f Z λa f=>As 3 9 Z f Z λa f=>As 5 9 Z f Z λa f=>q_three (i:=2) (j:=4) (k:=6) (l1:= #[true,true,true,true,false,true,false,false,false,false]) (l2:= #[true,true,false,true,true,true,false,false,false,false]) (l3:= #[true,true,false,true,false,true,true,false,false,false]) Z Z Z (by kernel_rfl) Z Z Z ?_ ?_ ?_)
         ·intro br w bs m bt bt
          refine have an:=rd2 bs an;Bd bg λbu bv bg=>BK f Z call32 (Wk.v m an bv) λbw bx bz w bA m bB a f=>Aa (bt bz [bx] _ _ bA m (q_p 7 9 Z f (λ_=>Bq (f.e Z)) λa f=>Ev (i:=4) (j:=6) (l1:= #[true,true,true,true,true,true,false,true,false,false]) (l2:= #[true,true,true,true,false,true,true,true,false,false]) Z Z (by kernel_rfl) Z Z ?_ ?_))
          ·intro bC w bD m bE bE
           refine have bB:=od1 bD bB;Bd bg λbF bG bg=>Cy (R:=R0) m T82 Z (by decide) Z f Z Z Z bG λbH bI w a m bJ f=>Aa (bE bC [bH,bx] _ _ gr m (q_p 8 9 Z f (λ_=>Bq (f.e Z)) λa f=>Bw 6 Z λbK w bL m bM bM=>have bJ:=od1 bL bJ;have bB:=od1 bL bB;Bd bg λbN bO bg=>Cy (R:=R0) m T82 Z (by decide) Z f Z Z Z bO λbP bQ w a m bR f=>Aa (bM bK [bP,bH,bx] _ _ gr m (A4 λbS w bT m=>have bR:=od1 bT bR;have bJ:=od1 bT bJ;have bB:=od1 bT bB;Ac f Z λa f=>Aa (have m:=m.fr 1;have m:=m.fr 2;have m:=m.fr 4;have m:=m.fr 4;?_)))))
           obtain rfl:=sj bg
           exact⟨_,_,_,Z,_,bw,bx,bI,bH,bQ,bP,(gt bs (gt bA (gt bD (gt bL bT)))),f.k Z,m,bB,bJ,bR⟩
          ·intro bK w bL m bM bM
           refine Bd bg λbF bG bg=>Bd bg λbN bO bg=>have bB:=od1 bL bB;Cy (R:=R0) m T82 Z (by decide) Z f Z Z Z bO λbP bQ w a m bR f=>Aa (bM bK [bP,bx] _ _ gr m (Bw 4 Z λbC w bD m bE bE=>have bR:=od1 bD bR;have bB:=od1 bD bB;Cy (R:=R0) m T82 Z (by decide) Z f Z Z Z bG λbH bI w a m bJ f=>Aa (bE bC [bH,bP,bx] _ _ gr m (q_p 8 9 Z f (λ_=>Bq (f.e Z)) λa f=>A4 λbS w bT m=>have bJ:=od1 bT bJ;have bR:=od1 bT bR;have bB:=od1 bT bB;Ac f Z λa f=>Aa (have m:=m.fr 2;have m:=m.fr 4;have m:=m.fr 4;?_)))))
           obtain rfl:=sj bg
           exact⟨_,_,_,Z,_,bw,bx,bI,bH,bQ,bP,(gt bs (gt bA (gt bL (gt bD bT)))),f.k Z,m,bB,bJ,bR⟩
         ·intro bC w bD m bE bE
          refine Bd bg λbu bv bg=>Bd bg λbF bG bg=>Bd bg λbN bO bg=>have an:=rd2 bD an;Cy (R:=R0) m T82 Z (by decide) Z f Z Z Z bG λbH bI w a m bJ f=>Aa (bE bC [bH] _ _ gr m (Ev (i:=2) (j:=6) (l1:= #[true,true,true,true,true,true,false,false,false,false]) (l2:= #[true,true,false,true,true,true,true,false,false,false]) Z Z (by kernel_rfl) Z Z ?_ ?_))
          ·intro br w bs m bt bt
           refine have an:=rd2 bs an;have bJ:=od1 bs bJ;BK f Z call32 (Wk.v m an bv) λbw bx bz w bA m bB a f=>have bJ:=od1 bA bJ;Aa (bt bz [bx,bH] _ _ bA m (q_p 7 9 Z f (λ_=>Bq (f.e Z)) λa f=>q_p 8 9 Z f (λ_=>Bq (f.e Z)) λa f=>Bw 6 Z λbK w bL m bM bM=>have bB:=od1 bL bB;have bJ:=od1 bL bJ;Cy (R:=R0) m T82 Z (by decide) Z f Z Z Z bO λbP bQ w a m bR f=>Aa (bM bK [bP,bx,bH] _ _ gr m (A4 λbS w bT m=>have bR:=od1 bT bR;have bB:=od1 bT bB;have bJ:=od1 bT bJ;Ac f Z λa f=>Aa (have m:=m.fr 2;have m:=m.fr 2;have m:=m.fr 4;have m:=m.fr 4;?_)))))
           obtain rfl:=sj bg
           exact⟨_,_,_,Z,_,bw,bx,bI,bH,bQ,bP,(gt bD (gt bs (gt bA (gt bL bT)))),f.k Z,m,bB,bJ,bR⟩
          ·intro bK w bL m bM bM
           refine have an:=rd2 bL an;have bJ:=od1 bL bJ;Cy (R:=R0) m T82 Z (by decide) Z f Z Z Z bO λbP bQ w a m bR f=>Aa (bM bK [bP,bH] _ _ gr m (Bw 2 Z λbr w bs m bt bt=>have an:=rd2 bs an;have bR:=od1 bs bR;have bJ:=od1 bs bJ;BK f Z call32 (Wk.v m an bv) λbw bx bz w bA m bB a f=>have bR:=od1 bA bR;have bJ:=od1 bA bJ;Aa (bt bz [bx,bP,bH] _ _ bA m (q_p 7 9 Z f (λ_=>Bq (f.e Z)) λa f=>q_p 8 9 Z f (λ_=>Bq (f.e Z)) λa f=>A4 λbS w bT m=>have bB:=od1 bT bB;have bR:=od1 bT bR;have bJ:=od1 bT bJ;Ac f Z λa f=>Aa (have m:=m.fr 2;have m:=m.fr 1;have m:=m.fr 4;have m:=m.fr 4;?_)))))
           obtain rfl:=sj bg
           exact⟨_,_,_,Z,_,bw,bx,bI,bH,bQ,bP,(gt bD (gt bL (gt bs (gt bA bT)))),f.k Z,m,bB,bJ,bR⟩
         ·intro bK w bL m bM bM
          refine Bd bg λbu bv bg=>Bd bg λbF bG bg=>Bd bg λbN bO bg=>have an:=rd2 bL an;Cy (R:=R0) m T82 Z (by decide) Z f Z Z Z bO λbP bQ w a m bR f=>Aa (bM bK [bP] _ _ gr m (Ev (i:=2) (j:=4) (l1:= #[true,true,true,true,false,true,true,false,false,false]) (l2:= #[true,true,false,true,true,true,true,false,false,false]) Z Z (by kernel_rfl) Z Z ?_ ?_))
          ·intro br w bs m bt bt
           refine have an:=rd2 bs an;have bR:=od1 bs bR;BK f Z call32 (Wk.v m an bv) λbw bx bz w bA m bB a f=>have bR:=od1 bA bR;Aa (bt bz [bx,bP] _ _ bA m (q_p 7 9 Z f (λ_=>Bq (f.e Z)) λa f=>Bw 4 Z λbC w bD m bE bE=>have bB:=od1 bD bB;have bR:=od1 bD bR;Cy (R:=R0) m T82 Z (by decide) Z f Z Z Z bG λbH bI w a m bJ f=>Aa (bE bC [bH,bx,bP] _ _ gr m (q_p 8 9 Z f (λ_=>Bq (f.e Z)) λa f=>A4 λbS w bT m=>have bJ:=od1 bT bJ;have bB:=od1 bT bB;have bR:=od1 bT bR;Ac f Z λa f=>Aa (have m:=m.fr 1;have m:=m.fr 4;have m:=m.fr 4;?_)))))
           obtain rfl:=sj bg
           exact⟨_,_,_,Z,_,bw,bx,bI,bH,bQ,bP,(gt bL (gt bs (gt bA (gt bD bT)))),f.k Z,m,bB,bJ,bR⟩
          ·intro bC w bD m bE bE
           refine have an:=rd2 bD an;have bR:=od1 bD bR;Cy (R:=R0) m T82 Z (by decide) Z f Z Z Z bG λbH bI w a m bJ f=>Aa (bE bC [bH,bP] _ _ gr m (Bw 2 Z λbr w bs m bt bt=>have an:=rd2 bs an;have bJ:=od1 bs bJ;have bR:=od1 bs bR;BK f Z call32 (Wk.v m an bv) λbw bx bz w bA m bB a f=>have bJ:=od1 bA bJ;have bR:=od1 bA bR;Aa (bt bz [bx,bH,bP] _ _ bA m (q_p 7 9 Z f (λ_=>Bq (f.e Z)) λa f=>q_p 8 9 Z f (λ_=>Bq (f.e Z)) λa f=>A4 λbS w bT m=>have bB:=od1 bT bB;have bJ:=od1 bT bJ;have bR:=od1 bT bR;Ac f Z λa f=>Aa (have m:=m.fr 4;have m:=m.fr 4;?_)))))
           obtain rfl:=sj bg
           exact⟨_,_,_,Z,_,bw,bx,bI,bH,bQ,bP,(gt bL (gt bD (gt bs (gt bA bT)))),f.k Z,m,bB,bJ,bR⟩
        ·rintro a w ⟨bh,bi,bj,rfl,bk,bl,bm,bn,bo,bp,bq,bU,f,m,bV,bW,bX⟩
         refine have ak:=rd2 bU ak;have al:=rd1 bU al;have am:=rd1 bU am;have an:=rd2 bU an;have ao:=rd2 bU ao;Ah (Ae (Ab f Z λa f=>Ab f Z λa f=>Aa (Bd hd λbY bZ hd=> ?_)))
         refine AL (λa w=>∃q_554':LI×LI,bY= .inl q_554'∧∃b0:LI,∃b1:LI,(b0,b1)=q_554'∧∃(b2:GH) (b3:Itm) (b4:Itm),GLe bk b2∧Fr a 159 [(2,pb ap),(5,(iv (ag.length:Int))),(9,bl),(10,bn),(11,bp)]∧Mem W b2 w (ib ap 29 [aa]::bm::b3::b4::H)∧Ow R0 3 b2 b3 bn b0∧Ow R0 3 b2 b4 bp b1) ?_ ?_
         ·refine Al (AM (λb5 a w=>∃b6:LI,∃b7:LI,∃b8:Int,(b6,b7,b8)=b5∧∃(b9:GH) (ca:Itm) (cb:Itm),GLe bk b9∧Fr a 159 [(2,pb ap),(3,pb aq),(5,(iv (ag.length:Int))),(6,(iv (af.length:Int))),(9,bl),(10,bn),(11,bp),(79,(iv (ag.length:Int))),(80,iv b8)]∧Mem W b9 w (ib ap 29 [aa]::ib aq 38 [ab,ac,ad,ae]::bm::ca::cb::H)∧Ow R0 3 b9 ca bn b6∧Ow R0 3 b9 cb bp b7) bZ ⟨_,_,_,Z,_,bo,bq,gr,f.k Z,m,bW,bX⟩ ?_)
          clear bZ f m
          rintro b5 cc cd ce a w ⟨b6,b7,b8,rfl,b9,ca,cb,cf,f,m,cg,ch⟩
          refine have al:=rd1 cf al;have am:=rd1 cf am;have an:=rd2 cf an;have ao:=rd2 cf ao;have bV:=od1 cf bV;Ae (Ai f Z Z AP λa f=>Aa (Ah ?_))
          rcases Ag cd with⟨ci,cd⟩|⟨ci,cd⟩
          ·refine Am f Z ci (An (Ah (Al (Ae (Ab f Z λa f=>Ac f Z λa f=>Aa (Ah (Ae (Ay 1 0 (ds:=[ab,ac,ad,ae]) m Cd f Z Z Z Z Z λa f=>Ab f Z λa f=>Ab f Z λa f=>Ab f Z λa f=>Bd cd λcj ck cd=>A9 f Z call46 (Ow.lendCall (RI.mono _) 2 bV m Z (λcl cm m cn=>Wk.u m (rd1 cm al) (rd1 cm am) (rd2 cm an) (rd2 cm ao) cn ck) (λ_ _ _ _ h=>h)) λco cp cq w cr m ct a f=> ?_))))))))
           obtain⟨rfl,rfl⟩:=ct
           refine have al:=rd1 cr al;have am:=rd1 cr am;have ao:=rd2 cr ao;have cg:=od1 cr cg;have ch:=od1 cr ch;l_o f (Bj (f.e Z)) λa f=>Aa ?_
           rcases Ag cd with⟨cu,cd⟩|⟨cu,cd⟩
           ·refine Am f Z cu (Ae (Ac f Z λa f=>Aa (Ar (have m:=m.dp 5;?_))))
            obtain rfl:=sj cd
            obtain rfl:=ce _ rfl
            obtain rfl:=sj hd
            exact⟨[(.bool false)],f.g Z,f.d,_,[],(gt aw (gt az (gt aC (gt aF (gt aI (gt aL (gt be (gt bU (gt cf cr))))))))),m,Z,Z⟩
           ·refine Ak f Z cu (An (Ah (Ae (AQ underlying38 Z sizeOf27 f Z λa f=>Ao 1 3 m AW f Z Z Z Z λa f=>Ab f Z λa f=>Bd cd λcv cw cd=>AX T27 f Z Z Z ao cw λcx cy a cz cA f=>Aw m AY f Z Z cz λa f=>AN underlying35 f Z Z cA λa f=>Ab f Z λa f=>Aa (Bd cd λcB cC cd=> ?_)))))
            refine AL (λa w=>∃cD:LI,cD=cB∧∃(cE:GH) (cF:Itm),GLe cp cE∧Fr a 159 [(2,pb ap),(3,pb aq),(5,(iv (ag.length:Int))),(6,(iv (af.length:Int))),(9,bl),(10,bn),(11,bp),(12,iv b8),(79,(iv (ag.length:Int))),(80,iv b8)]∧Mem W cE w (ib ap 29 [aa]::ib aq 38 [ab,ac,ad,ae]::bm::cF::cb::H)∧Ow R0 3 cE cF bn cD) ?_ ?_
            ·refine Al (AM (λcG a w=>∃cH:LI,∃cI:Int,(cH,cI)=cG∧∃(cJ:GH) (cK:Itm),GLe cp cJ∧Fr a 159 [(2,pb ap),(3,pb aq),(5,(iv (ag.length:Int))),(6,(iv (af.length:Int))),(9,bl),(10,bn),(11,bp),(12,iv b8),(79,(iv (ag.length:Int))),(80,iv b8),(93,cy),(94,(iv (cv.length:Int))),(95,iv cI)]∧Mem W cJ w (ib ap 29 [aa]::ib aq 38 [ab,ac,ad,ae]::bm::cK::cb::H)∧Ow R0 3 cJ cK bn cH) cC ⟨_,_,Z,_,ca,gr,f.k Z,m,cg⟩ ?_)
             clear cC f m
             rintro cG cL cM cN a w ⟨cH,cI,rfl,cJ,cK,cO,f,m,cP⟩
             refine have cA:=rd1 cO cA;Ae (Ai f Z Z AP λa f=>Aa (Ah ?_))
             rcases Ag cM with⟨cQ,cM⟩|⟨cQ,cM⟩
             ·refine Am f Z cQ (An (Ah (Al (Ae (Bd cM λcR cS cM=>AX T35 f Z Z Z cA cS λcT cU a cV cW f=> ?_)))))
              subst cW
              refine Aw m Pl2 f Z Z cV λa f=>Ac f Z λa f=>Aa (Aj (Ab f Z λa f=>Ab f Z λa f=>Bd cM λcX cY cM=>Bm 3 m cP Z T82 f Z Z Z cY λcZ a c0 f=>Bl 3 m cP Z Pl3 f Z Z c0 cY λc1 a c2 f=> ?_))
              subst c2
              refine Ai f Z Z AB λa f=>Bd cM λc3 c4 cM=>Bm 3 m cP Z T82 f Z Z Z c4 λc5 a c6 f=>Ci 3 m cP Z sizeOf3 f Z Z c6 c4 Z Z Z λc7 w m c8=>Aa (Aj (Ai f Z Z AB λa f=>Ab f Z λa f=>Aa ?_))
              obtain rfl:=sj cM
              exact⟨_,Z,_,_,Z,_,c7,cO,f.k Z,m,c8⟩
             ·refine Ak f Z cQ (AE Z ?_)
              obtain rfl:=sj cM
              obtain rfl:=cN _ rfl
              exact⟨_,Z,_,cK,cO,f.k Z,m,cP⟩
            ·rintro a w ⟨cD,rfl,cE,cF,c9,f,m,da⟩
             refine have al:=rd1 c9 al;have am:=rd1 c9 am;have ch:=od1 c9 ch;Ae (AQ underlying38 Z sizeOf35 f Z λa f=>Ao 1 0 m AY f Z Z Z Z λa f=>Ab f Z λa f=>Bd cd λdb dc cd=>AX T35 f Z Z Z al dc λdd de a df dg f=> ?_)
             subst dg
             refine Aw m Pl2 f Z Z df λa f=>Ai f Z Z Bf λa f=>Aa ?_
             rcases Ag cd with⟨dh,cd⟩|⟨dh,cd⟩
             ·refine Am f Z dh (Aj (Ab f Z λa f=>AQ underlying38 Z sizeOf35 f Z λa f=>Ao 1 1 m AY f Z Z Z Z λa f=>Ab f Z λa f=>Bd cd λdi dj cd=>AX T35 f Z Z Z am dj λdk dl a dm dn f=> ?_))
              subst dn
              refine Aw m Pl2 f Z Z dm λa f=>Bd cd λdq dr cd=>Bm 4 m ch Z T82 f Z Z Z dr λdt a du f=>Bl 4 m ch Z Pl3 f Z Z du dr λdv a dw f=> ?_
              subst dw
              refine Ai f Z Z AB λa f=>Bd cd λdx dy cd=>Bm 4 m ch Z T82 f Z Z Z dy λdz a dA f=>Ci 4 m ch Z sizeOf3 f Z Z dA dy Z Z Z λdB w m dC=>Aa (Aj (Ai f Z Z AB λa f=>Ab f Z λa f=>Aa ?_))
              obtain rfl:=sj cd
              exact⟨_,Z,_,_,_,Z,_,cF,dB,(gt cf (gt cr c9)),f.k Z,m,da,dC⟩
             ·refine Ak f Z dh (An (Aj (Ai f Z Z AB λa f=>Ab f Z λa f=>Aa ?_)))
              obtain rfl:=sj cd
              exact⟨_,Z,_,_,_,Z,_,cF,cb,(gt cf (gt cr c9)),f.k Z,m,da,ch⟩
          ·refine Ak f Z ci (AE Z (have m:=m.fr 4;have m:=m.fr 4;have m:=m.fr 4;have m:Mem W b9 w (ib ap 29 [aa]::bm::ca::cb::ib aq 38 [ab,ac,ad,ae]::H):=m.fr 3;have m:=m.eraseAt 4;?_))
           obtain rfl:=sj cd
           obtain rfl:=ce _ rfl
           exact⟨_,Z,_,_,Z,_,ca,cb,cf,f.k Z,m,cg,ch⟩
         ·rintro a w ⟨_,rfl,b0,b1,rfl,b2,b3,b4,dD,f,m,dE,dF⟩
          refine have ak:=rd2 dD ak;have bV:=od1 dD bV;Ah (Ae (Ab f Z λa f=>BH 2 m dE Z underlying82 f Z Z λa f=>Ab f Z λa f=>Aa (Bd hd λdG dH hd=> ?_)))
          refine AL (λa w=>∃q_883':Unit,dG= .inl q_883'∧∃(dI:GH),GLe b2 dI∧Fr a 159 [(2,pb ap),(5,(iv (ag.length:Int))),(9,bl),(11,bp)]∧Mem W dI w (ib ap 29 [aa]::bm::b4::H)) ?_ ?_
          ·refine Al (have m:=m.fr 3;have m:=m.fr 2;have m:=m.fr 2;AM (λdJ a w=>∃dK:Int,dK=dJ∧∃(dL:GH),GLe b2 dL∧Fr a 159 [(2,pb ap),(5,(iv (ag.length:Int))),(9,bl),(11,bp),(123,bn),(124,(iv (b0.length:Int))),(125,iv dK)]∧Mem W dL w (ib ap 29 [aa]::bm::b4::b3::H)) dH ⟨_,Z,_,gr,f.k Z,m⟩ ?_)
           clear dH f m
           rintro dJ dM dN dO a w ⟨dK,rfl,dL,dP,f,m⟩
           refine have dE:=od1 dP dE;Ae (Ai f Z Z AP λa f=>Aa (Ah ?_))
           rcases Ag dN with⟨dQ,dN⟩|⟨dQ,dN⟩
           ·refine Am f Z dQ (An (Ah (Al (Ae (Ab f Z λa f=>Bd dN λdR dS dN=>Bm 3 m dE Z T82 f Z Z Z dS λdT a dU f=>Bl 3 m dE Z Pl3 f Z Z dU dS λdV a dW f=> ?_)))))
            subst dW
            refine Ac f Z λa f=>Ac f Z λa f=>AF (Ab f Z λa f=>Ai f Z Z Bf λa f=>Ab f Z λa f=>Ab f Z λa f=>Ai f Z Z CA λa f=>Ai f Z Z AP λa f=>l_o f (r_bool_neq (f.e Z) (f.e Z) underlying4) λa f=>Ab f Z λa f=> ?_)
            refine Bk 3 (λa w=>∃dX,GLe dL dX∧Mem W dX w (ib ap 29 [aa]::bm::b4::b3::H)∧Fr a 159 [(2,pb ap),(5,(iv (ag.length:Int))),(9,bl),(11,bp),(15,iv dK),(16,iv dR),(123,bn),(124,(iv (b0.length:Int))),(125,iv dK),(130,iv dR),(131,(.bool (dR==1))),(132,iv dK),(133,(iv (ag.length:Int))),(134,(iv (i64.wrap ((ag.length:Int)-1)))),(135,(.bool (decide (dK<(i64.wrap ((ag.length:Int)-1)))))),(136,(.bool ((dR==1) !=(decide (dK<(i64.wrap ((ag.length:Int)-1))))))),(137,(.bool ((dR==1) !=(decide (dK<(i64.wrap ((ag.length:Int)-1))))))),(140,(.bool (((dR==1) !=(decide (dK<(i64.wrap ((ag.length:Int)-1)))))||(decide ((1:Int)<dR)))))]) ?_ ?_
            ·rcases Bool.eq_false_or_eq_true ((dR==1) !=(decide (dK<(i64.wrap ((ag.length:Int)-1))))) with dY|dY
             ·exact Aq f dY λa f=>Aq f dY λa f=>l_o f (AK (f.e Z) dY (f.e Z)) λa f=>⟨_,gr,m,f.weak ⟨Z,Z,Z,Z,Z,Z,Z,Z,Z,Z,Z,Z,Z,Z,Z,Z,Z,by rw[dY];rfl,trivial⟩⟩
             ·exact Ap f dY (Ab f Z λa f=>Ap f dY (Ai f Z Z CK λa f=>l_o f (AI (f.e Z) dY (f.e Z)) λa f=>⟨_,gr,m,f.weak ⟨Z,Z,Z,Z,Z,Z,Z,Z,Z,Z,Z,Z,Z,Z,Z,Z,Z,by rw[dY];rfl,trivial⟩⟩))
            ·rintro a w ⟨dX,dZ,m,f⟩
             refine Aa ?_
             rcases Ag dN with⟨d0,dN⟩|⟨d0,dN⟩
             ·refine Am f Z d0 (Ae (Ac f Z λa f=>Aa (Ar (have m:=m.dp 4;?_))))
              obtain rfl:=sj dN
              obtain rfl:=dO _ rfl
              obtain rfl:=sj hd
              exact⟨[(.bool false)],f.g Z,f.d,_,[],(gt aw (gt az (gt aC (gt aF (gt aI (gt aL (gt be (gt bU (gt dD (gt dP dZ)))))))))),m,Z,Z⟩
             ·refine Ak f Z d0 (An (Aj (Ai f Z Z AB λa f=>Ab f Z λa f=>Aa ?_)))
              obtain rfl:=sj dN
              exact⟨_,Z,_,Z,_,(gt dP dZ),f.k Z,m⟩
           ·refine Ak f Z dQ (AE Z (have m:=m.eraseAt 3;?_))
            obtain rfl:=sj dN
            obtain rfl:=dO _ rfl
            exact⟨_,Z,_,dP,f.k Z,m⟩
          ·rintro a w ⟨_,rfl,dI,d1,f,m⟩
           refine have ak:=rd2 d1 ak;have bV:=od1 d1 bV;have dF:=od1 d1 dF;Ae (Ab f Z λa f=>Ab f Z λa f=>Ai f Z Z CA λa f=>Bd hd λd2 d3 hd=>Bm 1 m bV Z T65 f Z Z Z d3 λd4 a d5 f=>Bl 1 m bV Z CU f Z Z d5 d3 λd6 a d7 f=> ?_)
           subst d7
           refine Ai f Z Z Bf λa f=>Ab f Z λa f=>Bd hd λd8 d9 hd=> ?_
           refine Bk 4 (λa w=>∃ea,GLe dI ea∧Mem W ea w (ib ap 29 [aa]::bm::b4::H)∧Fr a 159 [(2,pb ap),(5,(iv (ag.length:Int))),(9,bl),(11,bp),(142,bl),(143,(iv (ag.length:Int))),(144,(iv (i64.wrap ((ag.length:Int)-1)))),(145,d4),(146,(.int .u32 d2)),(147,(.bool (d2==0))),(148,(.bool (d2==0))),(152,(.bool d8))]) ?_ ?_
           ·rcases Ag d9 with⟨eb,d9⟩|⟨eb,d9⟩
            ·refine Ap f eb (Ab f Z λa f=>Ap f eb (Bd d9 λec ed d9=>A9 f Z call47 (Ow.lendCall (RI.mono _) 2 dF m Z (λee ef m eg=>Wk.o1 m eg ed) (λ_ _ _ _ h=>h)) λeh ei ej w ek m el a f=> ?_))
             obtain⟨rfl,rfl⟩:=el
             refine Ap f eb (l_o f (Bj (f.e Z)) λa f=>l_o f (AK (f.e Z) eb (f.e Z)) λa f=> ?_)
             obtain rfl:=sj d9
             exact⟨_,ek,m,f.k Z⟩
            ·refine Aq f eb λa f=>Aq f eb λa f=>Aq f eb λa f=>l_o f (AI (f.e Z) eb (f.e Z)) λa f=> ?_
             obtain rfl:=sj d9
             exact⟨_,gr,m,f.k Z⟩
           ·rintro a w ⟨ea,em,m,f⟩
            refine have ak:=rd2 em ak;have bV:=od1 em bV;Ab f Z λa f=>Bd hd λen eo hd=> ?_
            refine Bk 5 (λa w=>∃ep,GLe ea ep∧Mem W ep w (ib ap 29 [aa]::bm::b4::H)∧Fr a 159 [(2,pb ap),(5,(iv (ag.length:Int))),(9,bl),(11,bp),(142,bl),(143,(iv (ag.length:Int))),(144,(iv (i64.wrap ((ag.length:Int)-1)))),(145,d4),(146,(.int .u32 d2)),(147,(.bool (d2==0))),(148,(.bool (d2==0))),(152,(.bool d8)),(153,(.bool d8)),(158,(.bool en))]) ?_ ?_
            ·rcases Ag eo with⟨eq,eo⟩|⟨eq,eo⟩
             ·refine Ap f eq (Ay 0 0 (ds:=[aa]) m Bh f Z Z Z Z Z λa f=>Ap f eq (Bd eo λer es eo=>BK f Z call50 (Wk.L m ak es) λet eu ev w ew m ex a f=>have bV:=od1 ew bV;Ap f eq (Ab f Z λa f=>Ap f eq (Bd eo λey ez eo=>A9 f Z call49 (Ow.lendCall (RI.mono _) 0 ex m Z (λeA eB m eC=>(Ow.lendCall (RI.mono _) 1 (od1 eB bV) m Z (λeD eE m eF=>Wk.i0 m (rd1 eE eC) eF ez) (λ_ _ _ _ h=>h))) (λ_ _ _ _ h=>h)) λeG eH eI w eJ m eK a f=> ?_))))
              obtain⟨rfl,rfl⟩:=eK
              refine l_o f (AK (f.e Z) eq (f.e Z)) λa f=> ?_
              obtain rfl:=sj eo
              exact have m:=m.fr 3;have m:=m.fr 3;have m:=m.fr 3;have m:=m.eraseAt 3;⟨_,(gt ew eJ),m,f.k Z⟩
             ·refine Aq f eq λa f=>Aq f eq λa f=>Aq f eq λa f=>Aq f eq λa f=>l_o f (AI (f.e Z) eq (f.e Z)) λa f=> ?_
              obtain rfl:=sj eo
              exact⟨_,gr,m,f.k Z⟩
            ·rintro a w ⟨ep,eL,m,f⟩
             refine Ac f Z λa f=>Aa (Ar (have m:=m.dp 3;?_))
             obtain rfl:=sj hd
             exact⟨[(.bool en)],f.g Z,f.d,_,[],(gt aw (gt az (gt aC (gt aF (gt aI (gt aL (gt be (gt bU (gt dD (gt d1 (gt em eL))))))))))),m,Z,Z⟩
theorem Wk.q1 {aa v1:Value}{ab:LL}{x1:LI}(m:Mem W G w (H))(ac:R2 G aa ab)(h1:R1 G v1 x1){y:Bool}(hd:D.q1 ab x1=some y):
  Calls prog 51 #[(.agg #[aa]),v1] w (Res W G H (λ_ Ho v=>Ho=[]∧v=(.bool y))):=by
 refine Au (args:=[(.agg #[aa]),v1]) (N:=24) [.tmp 4] func51 Z Z (lb Z) Z λa f=> ?_
 unfold D.q1 at hd
 refine Ae (A3 (cs:=[aa]) m f Z Z Z λad w a m f=>Ac f Z λa f=>Aa (Ah (Ae (Ab f Z λa f=>AN underlying35 f Z Z h1 λa f=>AQ underlying29 Z sizeOf27 f Z λa f=>Ao 0 0 m AW f Z Z Z Z λa f=>AN underlying27 f Z Z ac λa f=>Ai f Z Z Cw λa f=>Aa ?_))))
 rcases Ag hd with⟨ae,hd⟩|⟨ae,hd⟩
 ·refine Am f Z ae (Ae (Ac f Z λa f=>Aa (Ar (have m:=m.dp 1;?_))))
  obtain rfl:=sj hd
  exact⟨[(.bool false)],f.g Z,f.d,_,[],gr,m,Z,Z⟩
 ·refine Ak f Z ae (An (Ah (Ae (Ac f Z λa f=>Aa (Bd hd λaf ag hd=> ?_)))))
  refine AL (λa w=>∃q_36':Unit,af= .inl q_36'∧∃(ah:GH),GLe G ah∧Fr a 24 []∧Mem W ah w (H)) ?_ ?_
  ·refine Al (have m:=m.dp 1;AM (λai a w=>∃aj:Int,aj=ai∧∃(ak:GH),GLe G ak∧Fr a 24 [(1,v1),(5,iv aj)]∧Mem W ak w (H)) ag ⟨_,Z,_,gr,f.k Z,m⟩ ?_)
   clear ag f m
   rintro ai al am an a w ⟨aj,rfl,ak,ao,f,m⟩
   refine have h1:=rd1 ao h1;Ah (Ae (Ab f Z λa f=>Ab f Z λa f=>AN underlying35 f Z Z h1 λa f=>Ai f Z Z AP λa f=>Aa ?_))
   rcases Ag am with⟨ap,am⟩|⟨ap,am⟩
   ·refine Am f Z ap (An (Ah (Al (Ae (Ab f Z λa f=>Ab f Z λa f=>Bd am λaq ar am=>AX T35 f Z Z Z h1 ar λau av a aw ax f=> ?_)))))
    subst ax
    refine Aw m Pl2 f Z Z aw λa f=>Bd am λay az am=>A2 f Z call75 (Wk.b m az) λaA w aB m a f=>l_o f (Bj (f.e Z)) λa f=>Aa ?_
    rcases Ag am with⟨aC,am⟩|⟨aC,am⟩
    ·refine Am f Z aC (Ae (Ac f Z λa f=>Aa (Ar ?_)))
     obtain rfl:=sj am
     obtain rfl:=an _ rfl
     obtain rfl:=sj hd
     exact⟨[(.bool false)],f.g Z,f.d,_,[],(gt ao aB),m,Z,Z⟩
    ·refine Ak f Z aC (An (Aj (Ab f Z λa f=>Ai f Z Z AB λa f=>Ac f Z λa f=>Aa ?_)))
     obtain rfl:=sj am
     exact⟨_,Z,_,Z,_,(gt ao aB),f.k Z,m⟩
   ·refine Ak f Z ap (AE Z ?_)
    obtain rfl:=sj am
    obtain rfl:=an _ rfl
    exact⟨_,Z,_,ao,f.weak trivial,m⟩
  ·rintro a w ⟨_,rfl,ah,aD,f,m⟩
   refine Ae (Ac f Z λa f=>Aa (Ar ?_))
   obtain rfl:=sj hd
   exact⟨[(.bool true)],f.g Z,f.d,_,[],aD,m,Z,Z⟩
theorem Wk.F {aa:Value}{ab:LL}(m:Mem W G w (H))(ac:R2 G aa ab){y:Int}(hd:D.F ab=some y):
  Calls prog 53 #[(.agg #[aa])] w (Res W G H (λ_ Ho v=>Ho=[]∧v=(iv y))):=by
 refine Au (args:=[(.agg #[aa])]) (N:=9) [.tmp 2] func53 Z Z (lb Z) Z λa f=> ?_
 unfold D.F at hd
 refine Ae (A3 (cs:=[aa]) m f Z Z Z λad w a m f=>Ac f Z λa f=>AF (AQ underlying29 Z sizeOf27 f Z λa f=>Ao 0 0 m AW f Z Z Z Z λa f=>AN underlying27 f Z Z ac λa f=>l_o f (C6 (f.e Z) ⟨_,underlying3⟩ underlying88) λa f=> ?_))
 obtain⟨ae,hd⟩:=CL hd
 refine l_o f (r_shl (f.e Z) (f.e Z) ae) λa f=>Ai f Z Z CA λa f=>Ac f Z λa f=>Aa (Ar (have m:=m.dp 1;?_))
 obtain rfl:=sj hd
 exact⟨[(iv (i64.wrap ((ishl .i64 1 (IntKind.u64.wrap (ab.length:Int)))-1)))],f.g Z,f.d,_,[],gr,m,Z,Z⟩
theorem Wk.z {x0:Int}(m:Mem W G w (H)){y:Int}(hd:D.z x0=some y):
  Calls prog 54 #[iv x0] w (Res W G H (λ_ Ho v=>Ho=[]∧v=(iv y))):=by
 refine Au (args:=[iv x0]) (N:=13) [.tmp 2] func54 Z Z (lb Z) Z λa f=> ?_
 unfold D.z at hd
 refine Ae (Ac f Z λa f=>AF (Ac f Z λa f=>Aa (Ah (Bd hd λaa ab hd=> ?_))))
 refine AL (λa w=>∃ac:Int,ac=aa∧∃(ad:GH),GLe G ad∧Fr a 13 [(3,iv ac)]∧Mem W ad w (H)) ?_ ?_
 ·refine Al (AM (λae a w=>∃af:Int,∃ag:Int,(af,ag)=ae∧∃(ah:GH),GLe G ah∧Fr a 13 [(0,iv af),(3,iv ag)]∧Mem W ah w (H)) ab ⟨_,_,Z,_,gr,f.k Z,m⟩ ?_)
  clear ab f m
  rintro ae ai aj ak a w ⟨af,ag,rfl,ah,al,f,m⟩
  refine Ah (Ae (Ab f Z λa f=>Ai f Z Z CK λa f=>Aa ?_))
  rcases Ag aj with⟨am,aj⟩|⟨am,aj⟩
  ·refine Am f Z am (An (Ah (Al (Aj (Ab f Z λa f=>Ai f Z Z AB λa f=>Ac f Z λa f=>Aa (Aj (Ab f Z λa f=>Ab f Z λa f=>Ai f Z Z CA λa f=>Ai f Z Z Dx λa f=>Ac f Z λa f=>Aa ?_)))))))
   obtain rfl:=sj aj
   exact⟨_,Z,_,_,Z,_,al,f.k Z,m⟩
  ·refine Ak f Z am (AE Z ?_)
   obtain rfl:=sj aj
   obtain rfl:=ak _ rfl
   exact⟨_,Z,_,al,f.k Z,m⟩
 ·rintro a w ⟨ac,rfl,ad,an,f,m⟩
  refine Ae (Ab f Z λa f=>Ac f Z λa f=>Aa (Ar ?_))
  obtain rfl:=sj hd
  exact⟨[iv ac],f.g Z,f.d,_,[],an,m,Z,Z⟩
end Go.Proofs.YtljcmdbpfeffcaaGreatDoor
