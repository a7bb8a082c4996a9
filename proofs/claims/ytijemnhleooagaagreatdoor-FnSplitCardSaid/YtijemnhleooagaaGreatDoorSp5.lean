/- Parts. -/
import Derived.Test.YtijemnhleooagaaGreatDoorSp4
import Derived.Test.YtijemnhleooagaaGreatDoorProg
import Derived.KernelRfl
set_option linter.unusedVariables false
set_option linter.unusedSimpArgs false
set_option linter.unusedSectionVars false
set_option maxRecDepth 100000
namespace Go.Proofs.YtijemnhleooagaaGreatDoor
open Go Go.Sx
open Go.Proofs.Tryz Go.Proofs.YtijemnhleooagaaGreatDoor.Tryz IntKind
variable {W w : World} {G : GH} {H : List Itm}
abbrev B7 (b:Nat)(p0 p1:Nat)(p2 p3:Value):Itm:=ib b 113 [p2,p3,Fw 51 #[(pb p0),(pb p1)]]
theorem Ag32 :Agg prog 32 3:=⟨isAgg32,sizeOf32⟩
theorem Pl39 :B8 prog 39:=isAgg39
theorem T80 :SlT prog 80 87 1 24 sn:=⟨underlying80,Tryz.t87,by kernel_rfl,by kernel_rfl,by kernel_rfl,by kernel_rfl⟩
theorem Ag62 :Agg prog 62 1:=⟨isAgg62,sizeOf62⟩
theorem Mk122 :∃f0 f1,PrK prog 122 3 f0 f1:=⟨_,_,⟨underlying122,rfl,rfl,rfl,rfl,by decide,by decide,underlying3,isAgg3,Tryz.stoodInHeld122⟩⟩
theorem Pl4 :B8 prog 4:=isAgg4
theorem Pl80 :B8 prog 80:=isAgg80
theorem Pl84 :B8 prog 84:=isAgg84
theorem Wk.u0 {b1 b2 b3 b3s:Nat}{v3s_0 v3s_1 v3s_2 v3s_3:Value}{it3s_3:Itm}{b4:Nat}{aa:Value}{b5:Nat}{ab:Value}{x0 ac ad:Int}{x3s_0 x3s_1:LI}{x3s_2:(List (Int×Int))}{x3s_3:LL}{ae af:LI}(hW:Cs W)(m:Mem W G w (ib b1 60 [(.int .u32 ac)]::ib b2 2 [iv ad]::ib b3 97 [pb b3s]::ib b3s 101 [v3s_0,v3s_1,v3s_2,v3s_3]::it3s_3::ib b4 51 [aa]::ib b5 51 [ab]::H))(h3s_0:RSl (RI .u32) G v3s_0 x3s_0)(h3s_1:R1 G v3s_1 x3s_1)(h3s_2:RSr P2 G v3s_2 x3s_2)(o3s_3:Ow R1 87 G it3s_3 v3s_3 x3s_3)(ag:RSl (RI .u32) G aa ae)(ah:RSl (RI .u32) G ab af){y:Bool×(LI)×(LL)}(hd:D.u0 x0 ac ad x3s_0 x3s_1 x3s_2 x3s_3 ae af=some y):
  Calls prog 78 #[(.int .u32 x0),pb b1,pb b2,pb b3,pb b4,pb b5] w (Res W G H (λG' Ho v=>∃r0:Value,∃r1:Value,∃i1:Itm,Ho=[ib b1 60 [(.int .u32 ac)],ib b2 2 [iv ad],ib b3 97 [pb b3s],ib b3s 101 [v3s_0,r0,v3s_2,r1],i1,ib b4 51 [aa],ib b5 51 [ab]]∧v=(.bool y.1)∧R1 G' r0 y.2.1∧Ow R1 87 G' i1 r1 y.2.2)):=by
 refine Au (args:=[(.int .u32 x0),pb b1,pb b2,pb b3,pb b4,pb b5]) (N:=63) [.tmp 7] func78 Z Z (lb Z) Z λa f=> ?_
 unfold D.u0 at hd
 refine Ae (Ac f Z λa f=>Aa (Ag (Ae (AG 0 0 m DB f Z Z Z Z λa f=>Ab f Z λa f=>Ah f Z Z CZ λa f=>Ah f Z Z Dc λa f=>Ab f Z λa f=>Bd hd λai aj hd=> ?_))))
 refine BF 10 (λa w=>∃ak,GLe G ak∧Mem W ak w (ib b1 60 [(.int .u32 ac)]::ib b2 2 [iv ad]::ib b3 97 [pb b3s]::ib b3s 101 [v3s_0,v3s_1,v3s_2,v3s_3]::it3s_3::ib b4 51 [aa]::ib b5 51 [ab]::H)∧Fr a 63 [(0,(.int .u32 x0)),(1,pb b1),(2,pb b2),(3,pb b3),(4,pb b4),(5,pb b5),(10,(.int .u32 ac)),(11,(.int .u32 x0)),(12,(.int .u32 (iand .u32 ac x0))),(13,(.bool ((iand .u32 ac x0) !=0))),(14,(.bool ((iand .u32 ac x0) !=0))),(24,(.bool ai))]) ?_ ?_
 ·rcases Af aj with⟨al,aj⟩|⟨al,aj⟩
  ·refine AC f al λa f=>AC f al λa f=>AC f al λa f=>C6 f Z Z Z λa f=>C6 f Z Z Z λa f=>C6 f Z Z Z λa f=>C6 f Z Z Z λa f=>C6 f Z Z Z λa f=>AC f al λa f=>l_o f (AY (f.e Z) al (f.e Z)) λa f=> ?_
   obtain rfl:=sj aj
   exact⟨_,gr,m,f.k Z⟩
  ·refine AB f al (AG 1 0 m Pl2 f Z Z Z Z λa f=>AB f al (Ah f Z Z BA λa f=>AB f al (Ab f Z λa f=>Bd aj λam an aj=> ?_)))
   refine BF 6 (λa w=>∃ao,GLe G ao∧Mem W ao w (ib b1 60 [(.int .u32 ac)]::ib b2 2 [iv ad]::ib b3 97 [pb b3s]::ib b3s 101 [v3s_0,v3s_1,v3s_2,v3s_3]::it3s_3::ib b4 51 [aa]::ib b5 51 [ab]::H)∧Fr a 63 [(0,(.int .u32 x0)),(1,pb b1),(2,pb b2),(3,pb b3),(4,pb b4),(5,pb b5),(10,(.int .u32 ac)),(11,(.int .u32 x0)),(12,(.int .u32 (iand .u32 ac x0))),(13,(.bool ((iand .u32 ac x0) !=0))),(14,(.bool ((iand .u32 ac x0) !=0))),(15,iv ad),(16,(.bool (ad==2))),(17,(.bool (ad==2))),(23,(.bool am))]) ?_ ?_
   ·rcases Af an with⟨ap,an⟩|⟨ap,an⟩
    ·refine AB f ap (AG 0 0 m DB f Z Z Z Z λa f=>AB f ap (Bd an λaq ar an=>Bj f Z call79 (Wk.M hW m ar) λau w av m a f=>AB f ap (Ab f Z λa f=>AB f ap (Bd an λaw ax an=>Bj f Z call79 (Wk.M hW m ax) λay w az m a f=>AB f ap (Ah f Z Z Ci λa f=>AB f al (l_o f (AY (f.e Z) ap (f.e Z)) λa f=> ?_))))))
     obtain rfl:=sj an
     exact⟨_,(gt av az),m,f.k Z⟩
    ·refine AC f ap λa f=>AC f ap λa f=>AC f ap λa f=>AC f ap λa f=>AC f ap λa f=>AB f al (l_o f (AX (f.e Z) ap (f.e Z)) λa f=> ?_)
     obtain rfl:=sj an
     exact⟨_,gr,m,f.k Z⟩
   ·rintro a w ⟨ao,aA,m,f⟩
    refine l_o f (AX (f.e Z) al (f.e Z)) λa f=> ?_
    obtain rfl:=sj aj
    exact⟨_,aA,m,f.k Z⟩
 ·rintro a w ⟨ak,aB,m,f⟩
  refine have h3s_0:=rd1 aB h3s_0;have h3s_1:=rd1 aB h3s_1;have h3s_2:=RSr.mono trivial _ _ _ _ aB h3s_2;have o3s_3:=od3 aB o3s_3;have ag:=rd1 aB ag;have ah:=rd1 aB ah;Aa ?_
  rcases Af hd with⟨aC,hd⟩|⟨aC,hd⟩
  ·refine Al f Z aC (Ae (Ac f Z λa f=>Aa (Ar ?_)))
   obtain rfl:=sj hd
   exact⟨[(.bool false)],f.g Z,f.d,_,[ib b1 60 [(.int .u32 ac)],ib b2 2 [iv ad],ib b3 97 [pb b3s],ib b3s 101 [v3s_0,v3s_1,v3s_2,v3s_3],it3s_3,ib b4 51 [aa],ib b5 51 [ab]],aB,m,_,_,_,Z,Z,h3s_1,o3s_3⟩
  ·refine Ai f Z aC (Ap (Ag (A5 6 AF (by kernel_rfl) m (Bf 0 6 2 Dy Z Z Z f Z λa f=>Bf 1 6 0 DB Z Z Z f Z λa f=>Aj 3 6 Z f Z λa f=>Bh 2 Z λaD w aE m aF aF=>have h3s_0:=rd1 aE h3s_0;have h3s_2:=RSr.mono trivial _ _ _ _ aE h3s_2;have o3s_3:=od3 aE o3s_3;have ag:=rd1 aE ag;have ah:=rd1 aE ah;Bd hd λaG aH hd=>BP f Z call80 (Wk.r hW m aH) λaI aJ aK w aL m aM a f=>have h3s_0:=rd1 aL h3s_0;have h3s_2:=RSr.mono trivial _ _ _ _ aL h3s_2;have o3s_3:=od3 aL o3s_3;have ag:=rd1 aL ag;have ah:=rd1 aL ah;Aa (aF aK [aJ] _ _ aL m (Bh 4 Z λaN w aO m aP aP=>have aM:=od1 aO aM;have h3s_0:=rd1 aO h3s_0;have h3s_2:=RSr.mono trivial _ _ _ _ aO h3s_2;have o3s_3:=od3 aO o3s_3;have ag:=rd1 aO ag;have ah:=rd1 aO ah;Bd hd λaQ aR hd=>BP f Z call80 (Wk.r hW m aR) λaS aT aU w aV m aW a f=>have aM:=od1 aV aM;have h3s_0:=rd1 aV h3s_0;?_))))))
   refine have h3s_2:=RSr.mono trivial _ _ _ _ aV h3s_2;have o3s_3:=od3 aV o3s_3;have ag:=rd1 aV ag;have ah:=rd1 aV ah;Aa (aP aU [aT,aJ] _ _ aV m (Bh 5 Z λaX w aY m aZ aZ=>have aW:=od1 aY aW;have aM:=od1 aY aM;have h3s_0:=rd1 aY h3s_0;have h3s_2:=RSr.mono trivial _ _ _ _ aY h3s_2;have o3s_3:=od3 aY o3s_3;have ag:=rd1 aY ag;have ah:=rd1 aY ah;Bd hd λa0 a1 hd=>Bm (RI.one _) 1 m aM Z T87 Z (by decide) f Z Z Z (Ow.src (j:=0) aW m Z) a1 λa2 a3 w a m a4 f=>Aa (aZ aX [aT,a2] _ _ gr m (AO λa5 w a6 m=>have a4:=od1 a6 a4;have h3s_0:=rd1 a6 h3s_0;have h3s_2:=RSr.mono trivial _ _ _ _ a6 h3s_2;have o3s_3:=od3 a6 o3s_3;have ag:=rd1 a6 ag;have ah:=rd1 a6 ah;l_o f (AH (f.e Z)) λa f=>Bu underlying101 Z sizeOf87 f Z λa f=>Am 5 1 (ds:=[a3]) m sizeOf87 f Z Z (Ow.cells 1 m a4 Z) (Ak (Ow.one1 1 m a4 Z) As) Z (lb Z) Z λw m=>Aa (Ag (Ae ?_))))))
   refine AG 4 0 m Dy f Z Z Z Z λa f=>l_o f (AH (f.e Z)) λa f=>Bu underlying101 Z sizeOf87 f Z λa f=>AG 5 1 m Ds f Z Z Z Z λa f=>BJ 1 m a4 Z underlying87 f Z Z λa f=>Ab f Z λa f=>Aa (Bd hd λa7 a8 hd=> ?_)
   refine AL (λa w=>∃q_245':Unit,a7= .inl q_245'∧∃(a9:GH),GLe a5 a9∧Fr a 63 [(0,(.int .u32 x0)),(1,pb b1),(3,pb b3),(4,pb b4)]∧Mem W a9 w (ib b1 60 [(.int .u32 ac)]::ib b3 97 [pb b3s]::ib b4 51 [aa]::ib b2 2 [iv ad]::ib b3s 101 [v3s_0,a3,v3s_2,v3s_3]::ib b5 51 [ab]::a2::it3s_3::H)) ?_ ?_
   ·refine Ao (have m:=m.fr 6;have m:=m.fr 2;have m:=m.fr 6;have m:Mem W a5 w (ib b2 2 [iv ad]::ib b3s 101 [v3s_0,a3,v3s_2,v3s_3]::a2::it3s_3::aT::ib b1 60 [(.int .u32 ac)]::ib b3 97 [pb b3s]::ib b4 51 [aa]::ib b5 51 [ab]::H):=m.fr 5;have m:=m.fr 8;have m:=m.fr 8;have m:=m.fr 8;have m:Mem W a5 w (ib b1 60 [(.int .u32 ac)]::ib b3 97 [pb b3s]::ib b4 51 [aa]::ib b5 51 [ab]::ib b2 2 [iv ad]::ib b3s 101 [v3s_0,a3,v3s_2,v3s_3]::a2::it3s_3::aT::H):=m.fr 8;have m:=m.eraseAt 8;AM (λba a w=>∃bb:Int,bb=ba∧∃(bc:GH),GLe a5 bc∧Fr a 63 [(0,(.int .u32 x0)),(1,pb b1),(3,pb b3),(4,pb b4),(5,pb b5),(36,a3),(37,(iv (a0.length:Int))),(38,iv bb)]∧Mem W bc w (ib b1 60 [(.int .u32 ac)]::ib b3 97 [pb b3s]::ib b4 51 [aa]::ib b5 51 [ab]::ib b2 2 [iv ad]::ib b3s 101 [v3s_0,a3,v3s_2,v3s_3]::a2::it3s_3::H)) a8 ⟨_,Z,_,gr,f.k Z,m⟩ ?_)
    clear a8 f m
    rintro ba bd be bf a w ⟨bb,rfl,bc,bg,f,m⟩
    refine have ag:=rd1 bg ag;have ah:=rd1 bg ah;have a4:=od1 bg a4;have o3s_3:=od3 bg o3s_3;Ae (Ah f Z Z AV λa f=>Aa (Ag ?_))
    rcases Af be with⟨bh,be⟩|⟨bh,be⟩
    ·refine Al f Z bh (Ap (Ag (Ao (Ae (Ab f Z λa f=>Bd be λbi bj be=>Bq 6 m a4 Z T87 f Z Z Z bj λbk a bl f=>BW 6 m a4 Z Pl3 f Z Z bl bj λbm a bn f=> ?_)))))
     subst bn
     refine Ac f Z λa f=>Ac f Z λa f=>Aa (Ag (A5 11 AF (by kernel_rfl) m (Bf 0 11 2 Pl51 Z Z Z f Z λa f=>Aj 1 11 Z f Z λa f=>Bd be λbo bp be=>Cd 2 11 T51 ag bp Z f Z Z λbq br a bs bt f=> ?_)))
     subst bt
     refine B3 3 11 DB bs Z f Z λa f=>Bd be λbu bv be=>BH (i:=4) 11 Z (by kernel_rfl) Z f Z Z Z call81 (λ_ _ w bw m=>Wk.C m bv) λa f=>Bf 5 11 3 Pl51 Z Z Z f Z λa f=>Aj 6 11 Z f Z λa f=>Bd be λbx bz be=>Cd 7 11 T51 ah bz Z f Z Z λbA bB a bC bD f=> ?_
     subst bD
     refine B3 8 11 DB bC Z f Z λa f=>Bd be λbE bF be=>BH (i:=9) 11 Z (by kernel_rfl) Z f Z Z Z call81 (λ_ _ w bG m=>Wk.C m bF) λa f=>q_p 10 11 Z f (λ_=>A8 (f.e Z) (f.e Z) AV) λa f=>AO λbH w bI m=>have a4:=od1 bI a4;have o3s_3:=od3 bI o3s_3;Aa ?_
     rcases Af be with⟨bJ,be⟩|⟨bJ,be⟩
     ·refine Al f Z bJ (Ae (Ac f Z λa f=>Aa (Ar (have m:=m.fr 6;?_))))
      obtain⟨bK,bL,m,bM⟩:=Ow.stamp (RI.mono _) a4 m
      refine have o3s_3:=od3 bL o3s_3;have m:=m.fr 6;have m:=m.fr 6;have m:=m.fr 3;have m:Mem W bK w (ib b2 2 [iv ad]::ib b3 97 [pb b3s]::ib b3s 101 [v3s_0,a3,v3s_2,v3s_3]::it3s_3::ib b1 60 [(.int .u32 ac)]::ib b4 51 [aa]::ib b5 51 [ab]::H):=m.fr 6;have m:=m.fr 4;?_
      obtain rfl:=sj be
      obtain rfl:=bf _ rfl
      obtain rfl:=sj hd
      exact⟨[(.bool false)],f.g Z,f.d,_,[ib b1 60 [(.int .u32 ac)],ib b2 2 [iv ad],ib b3 97 [pb b3s],ib b3s 101 [v3s_0,a3,v3s_2,v3s_3],it3s_3,ib b4 51 [aa],ib b5 51 [ab]],(gt aB (gt aE (gt aL (gt aO (gt aV (gt aY (gt a6 (gt bg (gt bI bL))))))))),m,_,_,_,Z,Z,bM,o3s_3⟩
     ·refine Ai f Z bJ (Ap (Aq (Ah f Z Z Ax λa f=>Ab f Z λa f=>Aa ?_)))
      obtain rfl:=sj be
      exact⟨_,Z,_,Z,_,(gt bg bI),f.k Z,m⟩
    ·refine Ai f Z bh (AK Z (have m:=m.fr 5;have m:=m.fr 5;have m:=m.fr 4;have m:Mem W bc w (ib b3 97 [pb b3s]::ib b4 51 [aa]::ib b2 2 [iv ad]::ib b3s 101 [v3s_0,a3,v3s_2,v3s_3]::ib b1 60 [(.int .u32 ac)]::ib b5 51 [ab]::a2::it3s_3::H):=m.fr 4;have m:=m.fr 4;?_))
     obtain rfl:=sj be
     obtain rfl:=bf _ rfl
     exact⟨_,Z,_,bg,f.k Z,m⟩
   ·rintro a w ⟨_,rfl,a9,bN,f,m⟩
    refine have ag:=rd1 bN ag;have h3s_0:=rd1 bN h3s_0;have h3s_2:=RSr.mono trivial _ _ _ _ bN h3s_2;have a4:=od1 bN a4;have o3s_3:=od3 bN o3s_3;Ag (A5 7 AF (by kernel_rfl) m (Bf 0 7 1 Dy Z Z Z f Z λa f=>Bf 1 7 2 Pl51 Z Z Z f Z λa f=>Bd hd λbO bP hd=>BH (i:=2) 7 Z (by kernel_rfl) Z f Z Z Z call83 (λ_ _ w bQ m=>Wk.o0 m (rd1 bQ ag) bP) λa f=>Bf 3 7 0 DB Z Z Z f Z λa f=>q_p 4 7 Z f (λ_=>A8 (f.e Z) (f.e Z) DZ) λa f=>Aj 5 7 Z f Z λa f=>q_p 6 7 Z f (λ_=>A8 (f.e Z) (f.e Z) DZ) λa f=>AO λbR w bS m=>have h3s_0:=rd1 bS h3s_0;have h3s_2:=RSr.mono trivial _ _ _ _ bS h3s_2;have a4:=od1 bS a4;have o3s_3:=od3 bS o3s_3;have m:=m.fr 6;?_))
    obtain⟨bT,bU,m,bV⟩:=Ow.stamp (RI.mono _) a4 m
    refine have h3s_0:=rd1 bU h3s_0;have h3s_2:=RSr.mono trivial _ _ _ _ bU h3s_2;have o3s_3:=od3 bU o3s_3;have m:=m.fr 6;have m:=m.fr 5;Bd hd λbW bX hd=>AI f Z call82 (Wk.l hW m h3s_0 bV h3s_2 o3s_3 bX) λbY bZ b0 w b6 m b7 a f=> ?_
    obtain⟨b8,b9,rfl,rfl,ca⟩:=b7
    refine have bV:=rd1 b6 bV;Ac f Z λa f=>Aa (Ar (have m:=m.fr 3;have m:=m.fr 5;have m:=m.fr 4;?_))
    obtain rfl:=sj hd
    exact⟨[(.bool bW.1)],f.g Z,f.d,_,[ib b1 60 [(.int .u32 ac)],ib b2 2 [iv ad],ib b3 97 [pb b3s],ib b3s 101 [v3s_0,a3,v3s_2,b8],b9,ib b4 51 [aa],ib b5 51 [ab]],(gt aB (gt aE (gt aL (gt aO (gt aV (gt aY (gt a6 (gt bN (gt bS (gt bU b6)))))))))),m,_,_,_,Z,Z,bV,ca⟩
theorem Wk.z0 {W:World}(hW:Cs W)(n:Nat):∀{w:World} {G:GH} {H:List Itm} {b4c0 b4c1 b4c2 b4c2s:Nat} {v4c2s_0 v4c2s_1 v4c2s_2 v4c2s_3:Value} {it4c2s_3:Itm} {b4c3:Nat} {aa:Value} {b4c4:Nat} {ab:Value} {x0 x1 x2 x3 ac ad:Int} {x4c2s_0 x4c2s_1:LI} {x4c2s_2:(List (Int×Int))} {x4c2s_3:LL} {ae af:LI} (m:Mem W G w (ib b4c0 60 [(.int .u32 ac)]::ib b4c1 2 [iv ad]::ib b4c2 97 [pb b4c2s]::ib b4c2s 101 [v4c2s_0,v4c2s_1,v4c2s_2,v4c2s_3]::it4c2s_3::ib b4c3 51 [aa]::ib b4c4 51 [ab]::H)) (h4c2s_0:RSl (RI .u32) G v4c2s_0 x4c2s_0) (h4c2s_1:R1 G v4c2s_1 x4c2s_1) (h4c2s_2:RSr P2 G v4c2s_2 x4c2s_2) (o4c2s_3:Ow R1 87 G it4c2s_3 v4c2s_3 x4c2s_3) (ag:RSl (RI .u32) G aa ae) (ah:RSl (RI .u32) G ab af) {y:Bool×(LI)×(LL)} (hd:D.z0 n x0 x1 x2 x3 ac ad x4c2s_0 x4c2s_1 x4c2s_2 x4c2s_3 ae af=some y),
  Calls prog 76 #[iv x0,iv x1,iv x2,(.int .u32 x3),Fw 78 #[(pb b4c0),(pb b4c1),(pb b4c2),(pb b4c3),(pb b4c4)]] w (Res W G H (λG' Ho v=>∃r0:Value,∃r1:Value,∃i1:Itm,Ho=[ib b4c0 60 [(.int .u32 ac)],ib b4c1 2 [iv ad],ib b4c2 97 [pb b4c2s],ib b4c2s 101 [v4c2s_0,r0,v4c2s_2,r1],i1,ib b4c3 51 [aa],ib b4c4 51 [ab]]∧v=(.bool y.1)∧R1 G' r0 y.2.1∧Ow R1 87 G' i1 r1 y.2.2)):=by
 induction n with
 |zero=>intros;rename_i hd;simp[D.z0] at hd
 |succ fuel ih=>
  intro w G H b4c0 b4c1 b4c2 b4c2s v4c2s_0 v4c2s_1 v4c2s_2 v4c2s_3 it4c2s_3 b4c3 aa b4c4 ab x0 x1 x2 x3 ac ad x4c2s_0 x4c2s_1 x4c2s_2 x4c2s_3 ae af m h4c2s_0 h4c2s_1 h4c2s_2 o4c2s_3 ag ah y hd
  refine Au (args:=[iv x0,iv x1,iv x2,(.int .u32 x3),Fw 78 #[(pb b4c0),(pb b4c1),(pb b4c2),(pb b4c3),(pb b4c4)]]) (N:=36) [.tmp 10] func76 Z Z (lb Z) Z λa f=> ?_
  unfold D.z0 at hd
  refine Ae (Ac f Z λa f=>Aa (Ag (Ae (Ab f Z λa f=>Ah f Z Z BA λa f=>Aa ?_))))
  rcases Af hd with⟨ai,hd⟩|⟨ai,hd⟩
  ·refine Al f Z ai (Ae (Ab f Z λa f=>Ab f Z λa f=>Bd hd λaj ak hd=>Ff f Z Z Z call78 (Wk.u0 hW m h4c2s_0 h4c2s_1 h4c2s_2 o4c2s_3 ag ah ak) λal am an w ao m ap a f=> ?_))
   obtain⟨aq,ar,au,rfl,rfl,av,aw⟩:=ap
   refine Ac f Z λa f=>Aa (Ar ?_)
   obtain rfl:=sj hd
   exact⟨[(.bool aj.1)],f.g Z,f.d,_,[ib b4c0 60 [(.int .u32 ac)],ib b4c1 2 [iv ad],ib b4c2 97 [pb b4c2s],ib b4c2s 101 [v4c2s_0,aq,v4c2s_2,ar],au,ib b4c3 51 [aa],ib b4c4 51 [ab]],ao,m,_,_,_,Z,Z,av,aw⟩
  ·refine Ai f Z ai (Ap (Ag (Ae (Ab f Z λa f=>Ac f Z λa f=>Aa (Bd hd λax ay hd=> ?_)))))
   refine AL (λa w=>∃q_69':LI×LL,ax= .inl q_69'∧∃az:LI,∃aA:LL,(az,aA)=q_69'∧∃(aB:GH) (aC:Value) (aD:Value) (aE:Itm),GLe G aB∧Fr a 36 []∧Mem W aB w (ib b4c0 60 [(.int .u32 ac)]::ib b4c1 2 [iv ad]::ib b4c2 97 [pb b4c2s]::ib b4c2s 101 [v4c2s_0,aC,v4c2s_2,aD]::ib b4c3 51 [aa]::ib b4c4 51 [ab]::aE::H)∧R1 aB aC az∧Ow R1 87 aB aE aD aA) ?_ ?_
   ·refine Ao (have m:=m.fr 6;have m:=m.fr 6;have m:=m.fr 4;have m:Mem W G w (ib b4c1 2 [iv ad]::ib b4c2 97 [pb b4c2s]::ib b4c3 51 [aa]::ib b4c4 51 [ab]::ib b4c0 60 [(.int .u32 ac)]::ib b4c2s 101 [v4c2s_0,v4c2s_1,v4c2s_2,v4c2s_3]::it4c2s_3::H):=m.fr 4;have m:=m.fr 4;AM (λaF a w=>∃aG:Int,∃aH:LI,∃aI:LL,(aG,aH,aI)=aF∧∃(aJ:GH) (aK:Value) (aL:Value) (aM:Itm),GLe G aJ∧Fr a 36 [(0,iv x0),(2,iv x2),(3,(.int .u32 x3)),(4,Fw 78 #[(pb b4c0),(pb b4c1),(pb b4c2),(pb b4c3),(pb b4c4)]),(11,iv aG)]∧Mem W aJ w (ib b4c0 60 [(.int .u32 ac)]::ib b4c1 2 [iv ad]::ib b4c2 97 [pb b4c2s]::ib b4c3 51 [aa]::ib b4c4 51 [ab]::ib b4c2s 101 [v4c2s_0,aK,v4c2s_2,aL]::aM::H)∧R1 aJ aK aH∧Ow R1 87 aJ aM aL aI) ay ⟨_,_,_,Z,_,v4c2s_1,v4c2s_3,it4c2s_3,gr,f.k Z,m,h4c2s_1,o4c2s_3⟩ ?_)
    clear ay f m
    rintro aF aN aO aP a w ⟨aG,aH,aI,rfl,aJ,aK,aL,aM,aQ,f,m,aR,aS⟩
    refine have ag:=rd1 aQ ag;have ah:=rd1 aQ ah;have h4c2s_0:=rd1 aQ h4c2s_0;have h4c2s_2:=RSr.mono trivial _ _ _ _ aQ h4c2s_2;Ag (Ae (Ab f Z λa f=>Ab f Z λa f=>Ah f Z Z Ax λa f=>Ab f Z λa f=>Ah f Z Z CL λa f=>Aa ?_))
    rcases Af aO with⟨aT,aO⟩|⟨aT,aO⟩
    ·refine Al f Z aT (Ap (Ag (Ao (Ae (Ab f Z λa f=>Ab f Z λa f=>Ah f Z Z Ax λa f=>Ab f Z λa f=>Ah f Z Z Be λa f=>Ab f Z λa f=>Ab f Z λa f=>Bd aO λaU aV aO=>Bj f Z call45 (Wk.e m aV) λaW w aX m a f=>have ag:=rd1 aX ag;have ah:=rd1 aX ah;have h4c2s_0:=rd1 aX h4c2s_0;have aR:=rd1 aX aR;have h4c2s_2:=RSr.mono trivial _ _ _ _ aX h4c2s_2;have aS:=od3 aX aS;Ah f Z Z b_or λa f=>Ab f Z λa f=>have m:=m.fr 6;have m:=m.fr 6;have m:=m.fr 4;have m:Mem W aW w (ib b4c1 2 [iv ad]::ib b4c2 97 [pb b4c2s]::ib b4c2s 101 [v4c2s_0,aK,v4c2s_2,aL]::aM::ib b4c0 60 [(.int .u32 ac)]::ib b4c3 51 [aa]::ib b4c4 51 [ab]::H):=m.fr 4;have m:=m.fr 4;Bd aO λaY aZ aO=>AI f Z call76 (ih m h4c2s_0 aR h4c2s_2 aS ag ah aZ) λa0 a1 a2 w a3 m a4 a f=> ?_)))))
     obtain⟨a5,a6,a7,rfl,rfl,a8,a9⟩:=a4
     refine Aa ?_
     rcases Af aO with⟨ba,aO⟩|⟨ba,aO⟩
     ·refine Al f Z ba (Ae (Ac f Z λa f=>Aa (Ar ?_)))
      obtain rfl:=sj aO
      obtain rfl:=aP _ rfl
      obtain rfl:=sj hd
      exact⟨[(.bool true)],f.g Z,f.d,_,[ib b4c0 60 [(.int .u32 ac)],ib b4c1 2 [iv ad],ib b4c2 97 [pb b4c2s],ib b4c2s 101 [v4c2s_0,a5,v4c2s_2,a6],a7,ib b4c3 51 [aa],ib b4c4 51 [ab]],(gt aQ (gt aX a3)),m,_,_,_,Z,Z,a8,a9⟩
     ·refine Ai f Z ba (Ap (Aq (Ab f Z λa f=>Ah f Z Z Ax λa f=>Ac f Z λa f=>Aa (have m:=m.fr 6;have m:=m.fr 6;have m:=m.fr 4;have m:Mem W a1 w (ib b4c1 2 [iv ad]::ib b4c2 97 [pb b4c2s]::ib b4c3 51 [aa]::ib b4c4 51 [ab]::ib b4c0 60 [(.int .u32 ac)]::ib b4c2s 101 [v4c2s_0,a5,v4c2s_2,a6]::a7::H):=m.fr 4;have m:=m.fr 4;?_))))
      obtain rfl:=sj aO
      exact⟨_,Z,_,_,_,Z,_,a5,a6,a7,(gt aQ (gt aX a3)),f.k Z,m,a8,a9⟩
    ·refine Ai f Z aT (AK Z (have m:=m.fr 5;have m:=m.fr 3;have m:=m.fr 3;have m:=m.fr 3;?_))
     obtain rfl:=sj aO
     obtain rfl:=aP _ rfl
     exact⟨_,Z,_,_,Z,_,aK,aL,aM,aQ,f.weak trivial,m,aR,aS⟩
   ·rintro a w ⟨_,rfl,az,aA,rfl,aB,aC,aD,aE,bb,f,m,bc,bd⟩
    refine Ae (Ac f Z λa f=>Aa (Ar (have m:=m.fr 6;have m:=m.fr 4;have m:=m.fr 4;have m:Mem W aB w (ib b4c1 2 [iv ad]::ib b4c2 97 [pb b4c2s]::ib b4c2s 101 [v4c2s_0,aC,v4c2s_2,aD]::aE::ib b4c0 60 [(.int .u32 ac)]::ib b4c3 51 [aa]::ib b4c4 51 [ab]::H):=m.fr 4;have m:=m.fr 4;?_)))
    obtain rfl:=sj hd
    exact⟨[(.bool false)],f.g Z,f.d,_,[ib b4c0 60 [(.int .u32 ac)],ib b4c1 2 [iv ad],ib b4c2 97 [pb b4c2s],ib b4c2s 101 [v4c2s_0,aC,v4c2s_2,aD],aE,ib b4c3 51 [aa],ib b4c4 51 [ab]],bb,m,_,_,_,Z,Z,bc,bd⟩
theorem Wk.A {b4c0 b4c1 b4c2 b4c2s:Nat}{v4c2s_0 v4c2s_1 v4c2s_2 v4c2s_3:Value}{it4c2s_3:Itm}{b4c3:Nat}{aa:Value}{b4c4:Nat}{ab:Value}{x0 x1 x2 x3 ac ad:Int}{x4c2s_0 x4c2s_1:LI}{x4c2s_2:(List (Int×Int))}{x4c2s_3:LL}{ae af:LI}(hW:Cs W)(m:Mem W G w (ib b4c0 60 [(.int .u32 ac)]::ib b4c1 2 [iv ad]::ib b4c2 97 [pb b4c2s]::ib b4c2s 101 [v4c2s_0,v4c2s_1,v4c2s_2,v4c2s_3]::it4c2s_3::ib b4c3 51 [aa]::ib b4c4 51 [ab]::H))(h4c2s_0:RSl (RI .u32) G v4c2s_0 x4c2s_0)(h4c2s_1:R1 G v4c2s_1 x4c2s_1)(h4c2s_2:RSr P2 G v4c2s_2 x4c2s_2)(o4c2s_3:Ow R1 87 G it4c2s_3 v4c2s_3 x4c2s_3)(ag:RSl (RI .u32) G aa ae)(ah:RSl (RI .u32) G ab af){y:Bool×(LI)×(LL)}(hd:D.A x0 x1 x2 x3 ac ad x4c2s_0 x4c2s_1 x4c2s_2 x4c2s_3 ae af=some y):
  Calls prog 76 #[iv x0,iv x1,iv x2,(.int .u32 x3),Fw 78 #[(pb b4c0),(pb b4c1),(pb b4c2),(pb b4c3),(pb b4c4)]] w (Res W G H (λG' Ho v=>∃r0:Value,∃r1:Value,∃i1:Itm,Ho=[ib b4c0 60 [(.int .u32 ac)],ib b4c1 2 [iv ad],ib b4c2 97 [pb b4c2s],ib b4c2s 101 [v4c2s_0,r0,v4c2s_2,r1],i1,ib b4c3 51 [aa],ib b4c4 51 [ab]]∧v=(.bool y.1)∧R1 G' r0 y.2.1∧Ow R1 87 G' i1 r1 y.2.2)):=by
 exact Wk.z0 hW BT m h4c2s_0 h4c2s_1 h4c2s_2 o4c2s_3 ag ah hd
theorem Wk.p {b1:Nat}{aa:Value}{b2 b3 b4 b4s:Nat}{v4s_0 v4s_1 v4s_2 v4s_3:Value}{it4s_3:Itm}{b5:Nat}{ab:Value}{x0:Int}{ac:LI}{ad ae:Int}{x4s_0 x4s_1:LI}{x4s_2:(List (Int×Int))}{x4s_3:LL}{af:LI}(hW:Cs W)(m:Mem W G w (ib b1 51 [aa]::ib b2 3 [iv ad]::ib b3 2 [iv ae]::ib b4 97 [pb b4s]::ib b4s 101 [v4s_0,v4s_1,v4s_2,v4s_3]::it4s_3::ib b5 51 [ab]::H))(ag:RSl (RI .u32) G aa ac)(h4s_0:RSl (RI .u32) G v4s_0 x4s_0)(h4s_1:R1 G v4s_1 x4s_1)(h4s_2:RSr P2 G v4s_2 x4s_2)(o4s_3:Ow R1 87 G it4s_3 v4s_3 x4s_3)(ah:RSl (RI .u32) G ab af){y:Bool×(LI)×(LL)}(hd:D.p x0 ac ad ae x4s_0 x4s_1 x4s_2 x4s_3 af=some y):
  Calls prog 77 #[(.int .u32 x0),pb b1,pb b2,pb b3,pb b4,pb b5] w (Res W G H (λG' Ho v=>∃r0:Value,∃r1:Value,∃i1:Itm,Ho=[ib b1 51 [aa],ib b2 3 [iv ad],ib b3 2 [iv ae],ib b4 97 [pb b4s],ib b4s 101 [v4s_0,r0,v4s_2,r1],i1,ib b5 51 [ab]]∧v=(.bool y.1)∧R1 G' r0 y.2.1∧Ow R1 87 G' i1 r1 y.2.2)):=by
 refine Au (args:=[(.int .u32 x0),pb b1,pb b2,pb b3,pb b4,pb b5]) (N:=13) [.tmp 7] func77 Z Z (lb Z) Z λa f=> ?_
 unfold D.p at hd
 refine Ae (Bz (cs:=[(.int .u32 x0)]) m f Z Z Z λai w a m f=>Ac f Z λa f=>Ay (AG 1 0 m Pl51 f Z Z Z Z λa f=>Bg underlying51 f Z Z ag λa f=>AG 2 0 m Pl3 f Z Z Z Z λa f=>En f Z Z Z λa f=>have m:=m.fr 7;have m:=m.fr 2;have m:=m.fr 7;have m:Mem W G w (ib b4s 101 [v4s_0,v4s_1,v4s_2,v4s_3]::it4s_3::ib b1 51 [aa]::ib b5 51 [ab]::ib ai 60 [(.int .u32 x0)]::ib b2 3 [iv ad]::ib b3 2 [iv ae]::ib b4 97 [pb b4s]::H):=m.fr 7;have m:=m.fr 7;have m:=m.fr 7;have m:=m.fr 6;Bd hd λaj ak hd=>AI f Z call76 (Wk.A hW m h4s_0 h4s_1 h4s_2 o4s_3 ag ah ak) λal am an w ao m ap a f=> ?_))
 obtain⟨aq,ar,au,rfl,rfl,av,aw⟩:=ap
 refine Ac f Z λa f=>Aa (Ar (have m:=m.fr 6;have m:=m.fr 5;have m:=m.fr 5;have m:Mem W am w (ib b4 97 [pb b4s]::ib b4s 101 [v4s_0,aq,v4s_2,ar]::au::ib b5 51 [ab]::ib ai 60 [(.int .u32 x0)]::ib b3 2 [iv ae]::ib b1 51 [aa]::ib b2 3 [iv ad]::H):=m.fr 5;have m:=m.fr 5;have m:=m.fr 7;have m:=m.fr 7;have m:=m.eraseAt 7;?_))
 obtain rfl:=sj hd
 exact⟨[(.bool aj.1)],f.g Z,f.d,_,[ib b1 51 [aa],ib b2 3 [iv ad],ib b3 2 [iv ae],ib b4 97 [pb b4s],ib b4s 101 [v4s_0,aq,v4s_2,ar],au,ib b5 51 [ab]],ao,m,_,_,_,Z,Z,av,aw⟩
theorem Wk.t0 {W:World}(hW:Cs W)(n:Nat):∀{w:World} {G:GH} {H:List Itm} {b4c0:Nat} {aa:Value} {b4c1 b4c2 b4c3 b4c3s:Nat} {v4c3s_0 v4c3s_1 v4c3s_2 v4c3s_3:Value} {it4c3s_3:Itm} {b4c4:Nat} {ab:Value} {x0 x1 x2 x3:Int} {ac:LI} {ad ae:Int} {x4c3s_0 x4c3s_1:LI} {x4c3s_2:(List (Int×Int))} {x4c3s_3:LL} {af:LI} (m:Mem W G w (ib b4c0 51 [aa]::ib b4c1 3 [iv ad]::ib b4c2 2 [iv ae]::ib b4c3 97 [pb b4c3s]::ib b4c3s 101 [v4c3s_0,v4c3s_1,v4c3s_2,v4c3s_3]::it4c3s_3::ib b4c4 51 [ab]::H)) (ag:RSl (RI .u32) G aa ac) (h4c3s_0:RSl (RI .u32) G v4c3s_0 x4c3s_0) (h4c3s_1:R1 G v4c3s_1 x4c3s_1) (h4c3s_2:RSr P2 G v4c3s_2 x4c3s_2) (o4c3s_3:Ow R1 87 G it4c3s_3 v4c3s_3 x4c3s_3) (ah:RSl (RI .u32) G ab af) {y:Bool×(LI)×(LL)} (hd:D.t0 n x0 x1 x2 x3 ac ad ae x4c3s_0 x4c3s_1 x4c3s_2 x4c3s_3 af=some y),
  Calls prog 76 #[iv x0,iv x1,iv x2,(.int .u32 x3),Fw 77 #[(pb b4c0),(pb b4c1),(pb b4c2),(pb b4c3),(pb b4c4)]] w (Res W G H (λG' Ho v=>∃r0:Value,∃r1:Value,∃i1:Itm,Ho=[ib b4c0 51 [aa],ib b4c1 3 [iv ad],ib b4c2 2 [iv ae],ib b4c3 97 [pb b4c3s],ib b4c3s 101 [v4c3s_0,r0,v4c3s_2,r1],i1,ib b4c4 51 [ab]]∧v=(.bool y.1)∧R1 G' r0 y.2.1∧Ow R1 87 G' i1 r1 y.2.2)):=by
 induction n with
 |zero=>intros;rename_i hd;simp[D.t0] at hd
 |succ fuel ih=>
  intro w G H b4c0 aa b4c1 b4c2 b4c3 b4c3s v4c3s_0 v4c3s_1 v4c3s_2 v4c3s_3 it4c3s_3 b4c4 ab x0 x1 x2 x3 ac ad ae x4c3s_0 x4c3s_1 x4c3s_2 x4c3s_3 af m ag h4c3s_0 h4c3s_1 h4c3s_2 o4c3s_3 ah y hd
  refine Au (args:=[iv x0,iv x1,iv x2,(.int .u32 x3),Fw 77 #[(pb b4c0),(pb b4c1),(pb b4c2),(pb b4c3),(pb b4c4)]]) (N:=36) [.tmp 10] func76 Z Z (lb Z) Z λa f=> ?_
  unfold D.t0 at hd
  refine Ae (Ac f Z λa f=>Aa (Ag (Ae (Ab f Z λa f=>Ah f Z Z BA λa f=>Aa ?_))))
  rcases Af hd with⟨ai,hd⟩|⟨ai,hd⟩
  ·refine Al f Z ai (Ae (Ab f Z λa f=>Ab f Z λa f=>Bd hd λaj ak hd=>Ff f Z Z Z call77 (Wk.p hW m ag h4c3s_0 h4c3s_1 h4c3s_2 o4c3s_3 ah ak) λal am an w ao m ap a f=> ?_))
   obtain⟨aq,ar,au,rfl,rfl,av,aw⟩:=ap
   refine Ac f Z λa f=>Aa (Ar ?_)
   obtain rfl:=sj hd
   exact⟨[(.bool aj.1)],f.g Z,f.d,_,[ib b4c0 51 [aa],ib b4c1 3 [iv ad],ib b4c2 2 [iv ae],ib b4c3 97 [pb b4c3s],ib b4c3s 101 [v4c3s_0,aq,v4c3s_2,ar],au,ib b4c4 51 [ab]],ao,m,_,_,_,Z,Z,av,aw⟩
  ·refine Ai f Z ai (Ap (Ag (Ae (Ab f Z λa f=>Ac f Z λa f=>Aa (Bd hd λax ay hd=> ?_)))))
   refine AL (λa w=>∃q_69':LI×LL,ax= .inl q_69'∧∃az:LI,∃aA:LL,(az,aA)=q_69'∧∃(aB:GH) (aC:Value) (aD:Value) (aE:Itm),GLe G aB∧Fr a 36 []∧Mem W aB w (ib b4c0 51 [aa]::ib b4c1 3 [iv ad]::ib b4c2 2 [iv ae]::ib b4c3 97 [pb b4c3s]::ib b4c3s 101 [v4c3s_0,aC,v4c3s_2,aD]::ib b4c4 51 [ab]::aE::H)∧R1 aB aC az∧Ow R1 87 aB aE aD aA) ?_ ?_
   ·refine Ao (have m:=m.fr 6;have m:=m.fr 4;have m:=m.fr 4;have m:Mem W G w (ib b4c1 3 [iv ad]::ib b4c2 2 [iv ae]::ib b4c3 97 [pb b4c3s]::ib b4c4 51 [ab]::ib b4c0 51 [aa]::ib b4c3s 101 [v4c3s_0,v4c3s_1,v4c3s_2,v4c3s_3]::it4c3s_3::H):=m.fr 4;have m:=m.fr 4;AM (λaF a w=>∃aG:Int,∃aH:LI,∃aI:LL,(aG,aH,aI)=aF∧∃(aJ:GH) (aK:Value) (aL:Value) (aM:Itm),GLe G aJ∧Fr a 36 [(0,iv x0),(2,iv x2),(3,(.int .u32 x3)),(4,Fw 77 #[(pb b4c0),(pb b4c1),(pb b4c2),(pb b4c3),(pb b4c4)]),(11,iv aG)]∧Mem W aJ w (ib b4c0 51 [aa]::ib b4c1 3 [iv ad]::ib b4c2 2 [iv ae]::ib b4c3 97 [pb b4c3s]::ib b4c4 51 [ab]::ib b4c3s 101 [v4c3s_0,aK,v4c3s_2,aL]::aM::H)∧R1 aJ aK aH∧Ow R1 87 aJ aM aL aI) ay ⟨_,_,_,Z,_,v4c3s_1,v4c3s_3,it4c3s_3,gr,f.k Z,m,h4c3s_1,o4c3s_3⟩ ?_)
    clear ay f m
    rintro aF aN aO aP a w ⟨aG,aH,aI,rfl,aJ,aK,aL,aM,aQ,f,m,aR,aS⟩
    refine have ag:=rd1 aQ ag;have ah:=rd1 aQ ah;have h4c3s_0:=rd1 aQ h4c3s_0;have h4c3s_2:=RSr.mono trivial _ _ _ _ aQ h4c3s_2;Ag (Ae (Ab f Z λa f=>Ab f Z λa f=>Ah f Z Z Ax λa f=>Ab f Z λa f=>Ah f Z Z CL λa f=>Aa ?_))
    rcases Af aO with⟨aT,aO⟩|⟨aT,aO⟩
    ·refine Al f Z aT (Ap (Ag (Ao (Ae (Ab f Z λa f=>Ab f Z λa f=>Ah f Z Z Ax λa f=>Ab f Z λa f=>Ah f Z Z Be λa f=>Ab f Z λa f=>Ab f Z λa f=>Bd aO λaU aV aO=>Bj f Z call45 (Wk.e m aV) λaW w aX m a f=>have ag:=rd1 aX ag;have ah:=rd1 aX ah;have h4c3s_0:=rd1 aX h4c3s_0;have aR:=rd1 aX aR;have h4c3s_2:=RSr.mono trivial _ _ _ _ aX h4c3s_2;have aS:=od3 aX aS;Ah f Z Z b_or λa f=>Ab f Z λa f=>have m:=m.fr 6;have m:=m.fr 6;have m:=m.fr 5;have m:Mem W aW w (ib b4c2 2 [iv ae]::ib b4c3 97 [pb b4c3s]::ib b4c3s 101 [v4c3s_0,aK,v4c3s_2,aL]::aM::ib b4c0 51 [aa]::ib b4c1 3 [iv ad]::ib b4c4 51 [ab]::H):=m.fr 5;have m:=m.fr 5;have m:=m.fr 5;Bd aO λaY aZ aO=>AI f Z call76 (ih m ag h4c3s_0 aR h4c3s_2 aS ah aZ) λa0 a1 a2 w a3 m a4 a f=> ?_)))))
     obtain⟨a5,a6,a7,rfl,rfl,a8,a9⟩:=a4
     refine Aa ?_
     rcases Af aO with⟨ba,aO⟩|⟨ba,aO⟩
     ·refine Al f Z ba (Ae (Ac f Z λa f=>Aa (Ar ?_)))
      obtain rfl:=sj aO
      obtain rfl:=aP _ rfl
      obtain rfl:=sj hd
      exact⟨[(.bool true)],f.g Z,f.d,_,[ib b4c0 51 [aa],ib b4c1 3 [iv ad],ib b4c2 2 [iv ae],ib b4c3 97 [pb b4c3s],ib b4c3s 101 [v4c3s_0,a5,v4c3s_2,a6],a7,ib b4c4 51 [ab]],(gt aQ (gt aX a3)),m,_,_,_,Z,Z,a8,a9⟩
     ·refine Ai f Z ba (Ap (Aq (Ab f Z λa f=>Ah f Z Z Ax λa f=>Ac f Z λa f=>Aa (have m:=m.fr 6;have m:=m.fr 4;have m:=m.fr 4;have m:Mem W a1 w (ib b4c1 3 [iv ad]::ib b4c2 2 [iv ae]::ib b4c3 97 [pb b4c3s]::ib b4c4 51 [ab]::ib b4c0 51 [aa]::ib b4c3s 101 [v4c3s_0,a5,v4c3s_2,a6]::a7::H):=m.fr 4;have m:=m.fr 4;?_))))
      obtain rfl:=sj aO
      exact⟨_,Z,_,_,_,Z,_,a5,a6,a7,(gt aQ (gt aX a3)),f.k Z,m,a8,a9⟩
    ·refine Ai f Z aT (AK Z (have m:=m.fr 5;have m:=m.fr 4;have m:=m.fr 4;have m:Mem W aJ w (ib b4c1 3 [iv ad]::ib b4c2 2 [iv ae]::ib b4c3 97 [pb b4c3s]::ib b4c3s 101 [v4c3s_0,aK,v4c3s_2,aL]::ib b4c0 51 [aa]::ib b4c4 51 [ab]::aM::H):=m.fr 4;have m:=m.fr 4;?_))
     obtain rfl:=sj aO
     obtain rfl:=aP _ rfl
     exact⟨_,Z,_,_,Z,_,aK,aL,aM,aQ,f.weak trivial,m,aR,aS⟩
   ·rintro a w ⟨_,rfl,az,aA,rfl,aB,aC,aD,aE,bb,f,m,bc,bd⟩
    refine Ae (Ac f Z λa f=>Aa (Ar (have m:=m.fr 6;have m:=m.fr 5;have m:=m.fr 5;have m:Mem W aB w (ib b4c2 2 [iv ae]::ib b4c3 97 [pb b4c3s]::ib b4c3s 101 [v4c3s_0,aC,v4c3s_2,aD]::aE::ib b4c0 51 [aa]::ib b4c1 3 [iv ad]::ib b4c4 51 [ab]::H):=m.fr 5;have m:=m.fr 5;have m:=m.fr 5;?_)))
    obtain rfl:=sj hd
    exact⟨[(.bool false)],f.g Z,f.d,_,[ib b4c0 51 [aa],ib b4c1 3 [iv ad],ib b4c2 2 [iv ae],ib b4c3 97 [pb b4c3s],ib b4c3s 101 [v4c3s_0,aC,v4c3s_2,aD],aE,ib b4c4 51 [ab]],bb,m,_,_,_,Z,Z,bc,bd⟩
theorem Wk.d {b4c0:Nat}{aa:Value}{b4c1 b4c2 b4c3 b4c3s:Nat}{v4c3s_0 v4c3s_1 v4c3s_2 v4c3s_3:Value}{it4c3s_3:Itm}{b4c4:Nat}{ab:Value}{x0 x1 x2 x3:Int}{ac:LI}{ad ae:Int}{x4c3s_0 x4c3s_1:LI}{x4c3s_2:(List (Int×Int))}{x4c3s_3:LL}{af:LI}(hW:Cs W)(m:Mem W G w (ib b4c0 51 [aa]::ib b4c1 3 [iv ad]::ib b4c2 2 [iv ae]::ib b4c3 97 [pb b4c3s]::ib b4c3s 101 [v4c3s_0,v4c3s_1,v4c3s_2,v4c3s_3]::it4c3s_3::ib b4c4 51 [ab]::H))(ag:RSl (RI .u32) G aa ac)(h4c3s_0:RSl (RI .u32) G v4c3s_0 x4c3s_0)(h4c3s_1:R1 G v4c3s_1 x4c3s_1)(h4c3s_2:RSr P2 G v4c3s_2 x4c3s_2)(o4c3s_3:Ow R1 87 G it4c3s_3 v4c3s_3 x4c3s_3)(ah:RSl (RI .u32) G ab af){y:Bool×(LI)×(LL)}(hd:D.d x0 x1 x2 x3 ac ad ae x4c3s_0 x4c3s_1 x4c3s_2 x4c3s_3 af=some y):
  Calls prog 76 #[iv x0,iv x1,iv x2,(.int .u32 x3),Fw 77 #[(pb b4c0),(pb b4c1),(pb b4c2),(pb b4c3),(pb b4c4)]] w (Res W G H (λG' Ho v=>∃r0:Value,∃r1:Value,∃i1:Itm,Ho=[ib b4c0 51 [aa],ib b4c1 3 [iv ad],ib b4c2 2 [iv ae],ib b4c3 97 [pb b4c3s],ib b4c3s 101 [v4c3s_0,r0,v4c3s_2,r1],i1,ib b4c4 51 [ab]]∧v=(.bool y.1)∧R1 G' r0 y.2.1∧Ow R1 87 G' i1 r1 y.2.2)):=by
 exact Wk.t0 hW BT m ag h4c3s_0 h4c3s_1 h4c3s_2 o4c3s_3 ah hd
theorem Wk.g {v0:Value}{x0:LI}{x1:Int}(hW:Cs W)(m:Mem W G w (H))(h0:RSl (RI .u32) G v0 x0){y:Int×(LI)×(LL)×Bool}(hd:D.g x0 x1=some y):
  Calls prog 44 #[v0,iv x1] w (Res W G H (λG' Ho v=>∃r0:Value,∃i0:Itm,∃r2:Value,∃i2:Itm,Ho=[i0,i2]∧v= .tuple #[(.agg #[iv y.1,r0,r2]),(.bool y.2.2.2)]∧Ow R0 2 G' i0 r0 y.2.1∧Ow R1 30 G' i2 r2 y.2.2.1)):=by
 refine Au (args:=[v0,iv x1]) (N:=69) [.cell 4 32,.tmp 5] func44 Z Z (lb Z) Z λa f=> ?_
 unfold D.g at hd
 refine Ae (Bz (cs:=[v0]) m f Z Z h0.cells λaa w a m f=>Bz (cs:=[iv x1]) m f Z Z Z λab w a m f=>AP (cs:=[iv 0,sn,sn]) zeroValue32 m f Z Z λac w a m f=>Ac f Z λa f=>Ay (AG 1 0 m Pl2 f Z Z Z Z λa f=>Bd hd λad ae hd=>Bj f Z call42 (Wk.z m ae) λaf w ag m a f=>have h0:=rd1 ag h0;Ab f Z λa f=>l_o f (AE (f.e Z) Z) λa f=>l_o f (AE (f.e Z) Z) λa f=>AP (cs:=[iv 0]) zeroValue3 m f Z Z λah w a m f=>Ac f Z λa f=>Am 0 0 (ds:=[iv ad.2]) m sizeOf3 f Z Z Z (Ak Z As) Z (lb Z) Z λw m=>Ay (AG 2 0 m Pl2 f Z Z Z Z λa f=>Bd hd λai aj hd=>AI f Z call74 (Wk.J1 hW m aj) λak al am w an m ao a f=> ?_)))
 obtain⟨ap,aq,rfl,rfl,ar⟩:=ao
 refine have h0:=rd1 an h0;Bd hd λau av hd=>BP f Z call30 (Ow.lendCall (RSl.mono (RI.mono _)) 0 ar m Z (λaw ax m ay=>Wk.J m ay av) (λ_ G' _ _ ⟨a0,a1,e1,e2,o0⟩=>⟨a0,a1,e1,e2,Ow.free (RI.free _) G' o0⟩)) λaz aA aB w aC m aD a f=>have h0:=rd1 aC h0;AP (cs:=[sn]) zeroValue51 m f Z Z λaE w a m f=>Am 0 0 (ds:=[az]) m sizeOf51 f Z Z (Ow.cells 1 m aD Z) (Ak (Ow.one1 1 m aD Z) As) Z (lb Z) Z λw m=>Aa (Ag (Bd hd λaF aG hd=> ?_))
 refine AL (λa w=>∃aH:List (Int×Int),aH=aF∧∃(aI:GH) (aJ:Nat) (aK:Nat) (aL:Value) (aM:Itm),GLe aB aI∧Fr a 69 [(2,pb aa),(3,pb ab),(4,pb ac),(6,iv ad.1),(7,pb ah),(8,pb aE),(9,pb aJ)]∧Mem W aI w (ib aa 51 [v0]::ib ab 2 [iv x1]::ib ac 32 [iv 0,sn,sn]::ib ah 3 [iv ad.2]::ib aE 51 [az]::ib aJ 97 [pb aK]::ib aK 101 [v0,sn,aL,sn]::aM::aA::H)∧OwR P2 122 aI aM aL aH) ?_ ?_
 ·refine A5 6 AF (by kernel_rfl) m (Bf 0 6 6 Pl51 Z Z Z f Z λa f=>Bf 1 6 5 Pl2 Z Z Z f Z λa f=>CD (i:=2) (j:=5) (l1:= #[true,true,true,false,false,false,false]) (l2:= #[true,true,false,false,false,true,false]) Z Z (by kernel_rfl) Z Z ?_ ?_)
  ·intro aN w aO m aP aP
   refine have h0:=rd1 aO h0;Bd aG λaQ aR aG=>BP f Z call75 (Wk.x0 m aR) λaS aT aU w aV m aW a f=>have h0:=rd1 aV h0;Aa (aP aU [aT] _ _ aV m (CD (i:=3) (j:=5) (l1:= #[true,true,true,true,false,false,false]) (l2:= #[true,true,true,false,false,true,false]) Z Z (by kernel_rfl) Z Z ?_ ?_))
   ·intro aX w aY m aZ aZ
    refine have h0:=rd1 aY h0;have aW:=OwR.mono trivial aY aW;?_
    have a2:∀w,(Instr.build 101 #[(0,v0),(2,aS)]).run prog w= .ok (.agg #[v0,sn,aS,sn]) w:=by intro w;simp[Instr.build,Instr.fill,h0.cells,(OwR.cells 0 m aW rfl),Bb,A6,AT,A2,AQ,Bc,A7]
    refine Bv f Z Z a2 λa f=>Aa (aZ aX [aT] _ _ gr m (CD (i:=4) (j:=5) (l1:= #[true,true,true,true,true,false,false]) (l2:= #[true,true,true,true,false,true,false]) Z Z (by kernel_rfl) Z Z ?_ ?_))
    ·intro a3 w a4 m a5 a5
     refine have aW:=OwR.mono trivial a4 aW;Bz (cs:=[v0,sn,aS,sn]) m f Z Z Z λa6 w a m f=>Aa (a5 a3 [ib a6 101 [v0,sn,aS,sn],aT] _ _ gr m (Bh 5 Z λa7 w a8 m a9 a9=>have aW:=OwR.mono trivial a8 aW;AP (cs:=[(.pointer none)]) zeroValue97 m f Z Z λba w a m f=>Aa (a9 a7 [ib ba 97 [(.pointer none)],ib a6 101 [v0,sn,aS,sn],aT] _ _ gr m (AO λbb w bc m=>have aW:=OwR.mono trivial bc aW;Am 0 0 (ds:=[pb a6]) m sizeOf97 f Z Z Z (Ak Z As) Z (lb Z) Z λw m=>Aa (have m:=m.fr 3;have m:=m.fr 6;have m:=m.fr 7;have m:Mem W bb w (ib ab 2 [iv x1]::ib ac 32 [iv 0,sn,sn]::ib ah 3 [iv ad.2]::ib aE 51 [az]::ib ba 97 [pb a6]::ib a6 101 [v0,sn,aS,sn]::aT::aA::aq::ib aa 51 [v0]::H):=m.fr 8;have m:=m.fr 9;have m:=m.eraseAt 9;?_)))))
     obtain rfl:=sj aG
     exact⟨_,Z,_,ba,a6,aS,aT,(gt aO (gt aV (gt aY (gt a4 (gt a8 bc))))),f.k Z,m,aW⟩
    ·intro a7 w a8 m a9 a9
     refine have aW:=OwR.mono trivial a8 aW;AP (cs:=[(.pointer none)]) zeroValue97 m f Z Z λba w a m f=>Aa (a9 a7 [ib ba 97 [(.pointer none)],aT] _ _ gr m (Bh 4 Z λa3 w a4 m a5 a5=>have aW:=OwR.mono trivial a4 aW;Bz (cs:=[v0,sn,aS,sn]) m f Z Z Z λa6 w a m f=>Aa (a5 a3 [ib a6 101 [v0,sn,aS,sn],ib ba 97 [(.pointer none)],aT] _ _ gr m (AO λbb w bc m=>have aW:=OwR.mono trivial bc aW;Am 1 0 (ds:=[pb a6]) m sizeOf97 f Z Z Z (Ak Z As) Z (lb Z) Z λw m=>Aa (have m:=m.fr 1;have m:=m.fr 3;have m:=m.fr 6;have m:Mem W bb w (ib ac 32 [iv 0,sn,sn]::ib ah 3 [iv ad.2]::ib aE 51 [az]::ib ba 97 [pb a6]::ib a6 101 [v0,sn,aS,sn]::aT::aA::aq::ib ab 2 [iv x1]::ib aa 51 [v0]::H):=m.fr 7;have m:=m.fr 8;have m:=m.fr 9;have m:=m.eraseAt 9;?_)))))
     obtain rfl:=sj aG
     exact⟨_,Z,_,ba,a6,aS,aT,(gt aO (gt aV (gt aY (gt a8 (gt a4 bc))))),f.k Z,m,aW⟩
   ·intro a7 w a8 m a9 a9
    refine have h0:=rd1 a8 h0;have aW:=OwR.mono trivial a8 aW;AP (cs:=[(.pointer none)]) zeroValue97 m f Z Z λba w a m f=>Aa (a9 a7 [ib ba 97 [(.pointer none)],aT] _ _ gr m (Bh 3 Z λaX w aY m aZ aZ=>have h0:=rd1 aY h0;have aW:=OwR.mono trivial aY aW;?_))
    have a2:∀w,(Instr.build 101 #[(0,v0),(2,aS)]).run prog w= .ok (.agg #[v0,sn,aS,sn]) w:=by intro w;simp[Instr.build,Instr.fill,h0.cells,(OwR.cells 1 m aW rfl),Bb,A6,AT,A2,AQ,Bc,A7]
    refine Bv f Z Z a2 λa f=>Aa (aZ aX [ib ba 97 [(.pointer none)],aT] _ _ gr m (Bh 4 Z λa3 w a4 m a5 a5=>have aW:=OwR.mono trivial a4 aW;Bz (cs:=[v0,sn,aS,sn]) m f Z Z Z λa6 w a m f=>Aa (a5 a3 [ib a6 101 [v0,sn,aS,sn],ib ba 97 [(.pointer none)],aT] _ _ gr m (AO λbb w bc m=>have aW:=OwR.mono trivial bc aW;Am 1 0 (ds:=[pb a6]) m sizeOf97 f Z Z Z (Ak Z As) Z (lb Z) Z λw m=>Aa (have m:=m.fr 1;have m:=m.fr 3;have m:=m.fr 6;have m:Mem W bb w (ib ac 32 [iv 0,sn,sn]::ib ah 3 [iv ad.2]::ib aE 51 [az]::ib ba 97 [pb a6]::ib a6 101 [v0,sn,aS,sn]::aT::aA::aq::ib ab 2 [iv x1]::ib aa 51 [v0]::H):=m.fr 7;have m:=m.fr 8;have m:=m.fr 9;have m:=m.eraseAt 9;?_)))))
    obtain rfl:=sj aG
    exact⟨_,Z,_,ba,a6,aS,aT,(gt aO (gt aV (gt a8 (gt aY (gt a4 bc))))),f.k Z,m,aW⟩
  ·intro a7 w a8 m a9 a9
   refine Bd aG λaQ aR aG=>have h0:=rd1 a8 h0;AP (cs:=[(.pointer none)]) zeroValue97 m f Z Z λba w a m f=>Aa (a9 a7 [ib ba 97 [(.pointer none)]] _ _ gr m (Bh 2 Z λaN w aO m aP aP=>have h0:=rd1 aO h0;BP f Z call75 (Wk.x0 m aR) λaS aT aU w aV m aW a f=>have h0:=rd1 aV h0;Aa (aP aU [aT,ib ba 97 [(.pointer none)]] _ _ aV m (Bh 3 Z λaX w aY m aZ aZ=>have h0:=rd1 aY h0;have aW:=OwR.mono trivial aY aW;?_))))
   have a2:∀w,(Instr.build 101 #[(0,v0),(2,aS)]).run prog w= .ok (.agg #[v0,sn,aS,sn]) w:=by intro w;simp[Instr.build,Instr.fill,h0.cells,(OwR.cells 0 m aW rfl),Bb,A6,AT,A2,AQ,Bc,A7]
   refine Bv f Z Z a2 λa f=>Aa (aZ aX [aT,ib ba 97 [(.pointer none)]] _ _ gr m (Bh 4 Z λa3 w a4 m a5 a5=>have aW:=OwR.mono trivial a4 aW;Bz (cs:=[v0,sn,aS,sn]) m f Z Z Z λa6 w a m f=>Aa (a5 a3 [ib a6 101 [v0,sn,aS,sn],aT,ib ba 97 [(.pointer none)]] _ _ gr m (AO λbb w bc m=>have aW:=OwR.mono trivial bc aW;Am 2 0 (ds:=[pb a6]) m sizeOf97 f Z Z Z (Ak Z As) Z (lb Z) Z λw m=>Aa (have m:=m.fr 2;have m:=m.fr 3;have m:=m.fr 6;have m:Mem W bb w (ib ac 32 [iv 0,sn,sn]::ib ah 3 [iv ad.2]::ib aE 51 [az]::ib ba 97 [pb a6]::ib a6 101 [v0,sn,aS,sn]::aT::aA::aq::ib ab 2 [iv x1]::ib aa 51 [v0]::H):=m.fr 7;have m:=m.fr 8;have m:=m.fr 9;have m:=m.eraseAt 9;?_)))))
   obtain rfl:=sj aG
   exact⟨_,Z,_,ba,a6,aS,aT,(gt a8 (gt aO (gt aV (gt aY (gt a4 bc))))),f.k Z,m,aW⟩
 ·rintro a w ⟨aH,rfl,aI,aJ,aK,aL,aM,bd,f,m,be⟩
  refine have h0:=rd1 bd h0;have aD:=od1 bd aD;Ag (A5 7 AF (by kernel_rfl) m (Bf 0 7 5 Dy Z Z Z f Z λa f=>Bf 1 7 5 Dy Z Z Z f Z λa f=>q_p 2 7 Z f (λ_=>AH (f.e Z)) λa f=>BE 3 7 underlying101 Z sizeOf98 Z f Z λa f=>Bf 4 7 6 Pl98 Z Z Z f Z λa f=>q_ownR_len (i:=5) (listed':= #[true,true,true,true,true,true,false,false,false,false]) 7 7 m be Z underlying98 Z (by kernel_rfl) Z f Z Z Z λa f=>Bh 6 Z λbf w bg m bh bh=>have h0:=rd1 bg h0;have be:=OwR.mono trivial bg be;have aD:=od1 bg aD;Bd hd λbi bj hd=>Fb (R:=R1) m T79 Z (by decide) (RSl.nil R0 bf) f Z Z Z bj λbk bl w a m bm f=>Aa (bh bf [bk] _ _ gr m (AO λbn w bo m=>have bm:=od3 bo bm;have h0:=rd1 bo h0;have be:=OwR.mono trivial bo be;have aD:=od1 bo aD;l_o f (AH (f.e Z)) λa f=>Bu underlying101 Z sizeOf79 f Z λa f=> ?_))))
  refine Am 7 3 (ds:=[bl]) m sizeOf79 f Z Z (Ow.cells 0 m bm Z) (Ak (Ow.one1 0 m bm Z) As) Z (lb Z) Z λw m=>Ay (AG 1 0 m Pl51 f Z Z Z Z λa f=>Bg underlying51 f Z Z h0 λa f=>Ab f Z λa f=>En f Z Z Z λa f=>have bp:=RSl.nil R0 bn;have m:=m.fr 8;?_)
  obtain⟨bq,br,m,bs⟩:=OwR.stamp trivial be m
  refine have h0:=rd1 br h0;have bm:=od3 br bm;have bp:=rd1 br bp;have aD:=od1 br aD;have m:=m.fr 8;?_
  obtain⟨bt,bu,m,bv⟩:=Ow.stamp (RI.mono _) aD m
  refine have h0:=rd1 bu h0;have bm:=od3 bu bm;have bp:=rd1 bu bp;have bs:=RSr.mono trivial _ _ _ _ bu bs;have m:=m.fr 5;have m:=m.fr 1;have m:=m.fr 7;have m:Mem W bt w (ib aJ 97 [pb aK]::ib aK 101 [v0,sn,aL,bl]::bk::ib aE 51 [az]::ib aa 51 [v0]::ib ab 2 [iv x1]::ib ac 32 [iv 0,sn,sn]::ib ah 3 [iv ad.2]::H):=m.fr 7;have m:=m.fr 5;have m:=m.fr 7;have m:=m.fr 6;Bd hd λbw bx hd=>AI f Z call76 (Wk.d hW m h0 h0 bp bs bm bv bx) λbz bA bB w bC m bD a f=> ?_
  obtain⟨bE,bF,bG,rfl,rfl,bH,bI⟩:=bD
  refine Ac f Z λa f=>Aa (Ag (Ae (Ab f Z λa f=>l_o f (BN (f.e Z)) λa f=>Aa ?_)))
  rcases Af hd with⟨bJ,hd⟩|⟨bJ,hd⟩
  ·refine Al f Z bJ (Ae ?_)
   have bK:∀w,(Instr.build 32 #[]).run prog w= .ok (.agg #[iv 0,sn,sn]) w:=by intro w;simp[Instr.build,Instr.fill,Bb,A6,AT,A2,AQ,Bc,A7]
   refine Bv f Z Z bK λa f=>Am 7 0 (ds:=[iv 0,sn,sn]) m sizeOf32 f Z Z Z (Ak Z (Ak Z (Ak Z As))) Z (lb Z) Z λw m=>Ac f Z λa f=>Aa (Ar ?_)
   obtain⟨bL,m,bM⟩:=Ow.nil R0 2 m
   obtain⟨bN,m,bO⟩:=Ow.nil R1 30 m
   refine have bP:=Bi (P:=prog) 9 m Ag32 f (s:=4) rfl rfl rfl;have m:=m.fr 1;have m:=m.fr 7;have m:=m.fr 2;have m:Mem W bA w (bL::bN::bG::ib aa 51 [v0]::ib ah 3 [iv ad.2]::ib ab 2 [iv x1]::ib aJ 97 [pb aK]::ib aK 101 [v0,bE,aL,bF]::ib aE 51 [az]::ib ac 32 [iv 0,sn,sn]::H):=m.fr 2;have m:=m.eraseAt 9;have m:=m.eraseAt 8;have m:=m.eraseAt 7;have m:Mem W bA w (bL::bN::bG::ib aa 51 [v0]::ib ah 3 [iv ad.2]::ib ab 2 [iv x1]::H):=m.eraseAt 6;have m:=m.eraseAt 5;have m:=m.eraseAt 4;have m:=m.eraseAt 3;have m:=m.eraseAt 2;?_
   obtain rfl:=sj hd
   exact⟨[(.agg #[iv 0,sn,sn]),(.bool false)],⟨bP,f.get _ _ Z,trivial⟩,f.d,_,[bL,bN],(gt ag (gt an (gt aC (gt bd (gt bg (gt bo (gt br (gt bu bC)))))))),m,_,_,_,_,Z,Z,bM,bO⟩
  ·refine Ai f Z bJ (Ap (Ag (Bd hd λbQ bR hd=> ?_)))
   refine AL (λa w=>∃bS:LI,bS=bQ∧∃(bT:GH) (bU:Nat) (bV:Value) (bW:Itm),GLe bA bT∧Fr a 69 [(4,pb ac),(9,pb aJ),(11,pb bU)]∧Mem W bT w (ib ac 32 [iv 0,sn,sn]::ib aJ 97 [pb aK]::ib aK 101 [v0,bE,aL,bF]::ib bU 32 [iv x1,bV,sn]::bW::bG::H)∧Ow R0 2 bT bW bV bS) ?_ ?_
   ·refine A5 8 AF (by kernel_rfl) m (Bf 0 8 2 Pl2 Z Z Z f Z λa f=>Bf 1 8 3 Dy Z Z Z f Z λa f=>q_p 2 8 Z f (λ_=>AH (f.e Z)) λa f=>BE 3 8 underlying101 Z sizeOf87 Z f Z λa f=>Bf 4 8 4 Ds Z Z Z f Z λa f=>CD (i:=5) (j:=7) (l1:= #[true,true,true,true,true,true,false,false,false]) (l2:= #[true,true,true,true,true,false,false,true,false]) Z Z (by kernel_rfl) Z Z ?_ ?_)
    ·intro bX w bY m bZ bZ
     refine have bH:=rd1 bY bH;Bd bR λb0 b1 bR=>BP f Z call84 (Wk.u m bH b1) λb2 b3 b4 w b5 m b6 a f=>Aa (bZ b4 [b3] _ _ b5 m (CD (i:=6) (j:=7) (l1:= #[true,true,true,true,true,true,true,false,false]) (l2:= #[true,true,true,true,true,true,false,true,false]) Z Z (by kernel_rfl) Z Z ?_ ?_))
     ·intro b7 w b8 m b9 b9
      have b6:=od1 b8 b6
      have ca:∀w,(Instr.build 32 #[(0,iv x1),(1,b2)]).run prog w= .ok (.agg #[iv x1,b2,sn]) w:=by intro w;simp[Instr.build,Instr.fill,(Ow.cells 0 m b6 rfl),Bb,A6,AT,A2,AQ,Bc,A7]
      refine Bv f Z Z ca λa f=>Aa (b9 b7 [b3] _ _ gr m (Bh 7 Z λcb w cc m cd cd=>have b6:=od1 cc b6;AP (cs:=[iv 0,sn,sn]) zeroValue32 m f Z Z λce w a m f=>Aa (cd cb [ib ce 32 [iv 0,sn,sn],b3] _ _ gr m (AO λcf w cg m=>have b6:=od1 cg b6;Am 0 0 (ds:=[iv x1,b2,sn]) m sizeOf32 f Z Z Z (Ak Z (Ak (Ow.one1 1 m b6 Z) (Ak Z As))) Z (lb Z) Z λw m=>Aa (have m:=m.fr 7;have m:=m.fr 2;have m:=m.fr 2;have m:Mem W cf w (ib aK 101 [v0,bE,aL,bF]::ib ce 32 [iv x1,b2,sn]::b3::bG::ib aa 51 [v0]::ib ah 3 [iv ad.2]::ib ab 2 [iv x1]::ib aJ 97 [pb aK]::ib aE 51 [az]::ib ac 32 [iv 0,sn,sn]::H):=m.fr 7;have m:=m.fr 7;have m:=m.fr 9;have m:=m.eraseAt 9;have m:Mem W cf w (ib ac 32 [iv 0,sn,sn]::ib aJ 97 [pb aK]::ib aK 101 [v0,bE,aL,bF]::ib ce 32 [iv x1,b2,sn]::b3::bG::ib aa 51 [v0]::ib ah 3 [iv ad.2]::H):=m.eraseAt 8;?_)))))
      refine have m:=m.eraseAt 7;have m:=m.eraseAt 6;?_
      obtain rfl:=sj bR
      exact⟨_,Z,_,ce,b2,b3,(gt bY (gt b5 (gt b8 (gt cc cg)))),f.k Z,m,b6⟩
     ·intro cb w cc m cd cd
      refine have b6:=od1 cc b6;AP (cs:=[iv 0,sn,sn]) zeroValue32 m f Z Z λce w a m f=>Aa (cd cb [ib ce 32 [iv 0,sn,sn],b3] _ _ gr m (Bh 6 Z λb7 w b8 m b9 b9=>have b6:=od1 b8 b6;?_))
      have ca:∀w,(Instr.build 32 #[(0,iv x1),(1,b2)]).run prog w= .ok (.agg #[iv x1,b2,sn]) w:=by intro w;simp[Instr.build,Instr.fill,(Ow.cells 1 m b6 rfl),Bb,A6,AT,A2,AQ,Bc,A7]
      refine Bv f Z Z ca λa f=>Aa (b9 b7 [ib ce 32 [iv 0,sn,sn],b3] _ _ gr m (AO λcf w cg m=>have b6:=od1 cg b6;Am 0 0 (ds:=[iv x1,b2,sn]) m sizeOf32 f Z Z Z (Ak Z (Ak (Ow.one1 1 m b6 Z) (Ak Z As))) Z (lb Z) Z λw m=>Aa (have m:=m.fr 7;have m:=m.fr 2;have m:=m.fr 2;have m:Mem W cf w (ib aK 101 [v0,bE,aL,bF]::ib ce 32 [iv x1,b2,sn]::b3::bG::ib aa 51 [v0]::ib ah 3 [iv ad.2]::ib ab 2 [iv x1]::ib aJ 97 [pb aK]::ib aE 51 [az]::ib ac 32 [iv 0,sn,sn]::H):=m.fr 7;have m:=m.fr 7;have m:=m.fr 9;have m:=m.eraseAt 9;have m:Mem W cf w (ib ac 32 [iv 0,sn,sn]::ib aJ 97 [pb aK]::ib aK 101 [v0,bE,aL,bF]::ib ce 32 [iv x1,b2,sn]::b3::bG::ib aa 51 [v0]::ib ah 3 [iv ad.2]::H):=m.eraseAt 8;have m:=m.eraseAt 7;have m:=m.eraseAt 6;?_)))
      obtain rfl:=sj bR
      exact⟨_,Z,_,ce,b2,b3,(gt bY (gt b5 (gt cc (gt b8 cg)))),f.k Z,m,b6⟩
    ·intro cb w cc m cd cd
     refine Bd bR λb0 b1 bR=>have bH:=rd1 cc bH;AP (cs:=[iv 0,sn,sn]) zeroValue32 m f Z Z λce w a m f=>Aa (cd cb [ib ce 32 [iv 0,sn,sn]] _ _ gr m (Bh 5 Z λbX w bY m bZ bZ=>have bH:=rd1 bY bH;BP f Z call84 (Wk.u m bH b1) λb2 b3 b4 w b5 m b6 a f=>Aa (bZ b4 [b3,ib ce 32 [iv 0,sn,sn]] _ _ b5 m (Bh 6 Z λb7 w b8 m b9 b9=>have b6:=od1 b8 b6;?_))))
     have ca:∀w,(Instr.build 32 #[(0,iv x1),(1,b2)]).run prog w= .ok (.agg #[iv x1,b2,sn]) w:=by intro w;simp[Instr.build,Instr.fill,(Ow.cells 0 m b6 rfl),Bb,A6,AT,A2,AQ,Bc,A7]
     refine Bv f Z Z ca λa f=>Aa (b9 b7 [b3,ib ce 32 [iv 0,sn,sn]] _ _ gr m (AO λcf w cg m=>have b6:=od1 cg b6;Am 1 0 (ds:=[iv x1,b2,sn]) m sizeOf32 f Z Z Z (Ak Z (Ak (Ow.one1 0 m b6 Z) (Ak Z As))) Z (lb Z) Z λw m=>Aa (have m:=m.fr 7;have m:=m.fr 1;have m:=m.fr 2;have m:Mem W cf w (ib aK 101 [v0,bE,aL,bF]::ib ce 32 [iv x1,b2,sn]::b3::bG::ib aa 51 [v0]::ib ah 3 [iv ad.2]::ib ab 2 [iv x1]::ib aJ 97 [pb aK]::ib aE 51 [az]::ib ac 32 [iv 0,sn,sn]::H):=m.fr 7;have m:=m.fr 7;have m:=m.fr 9;have m:=m.eraseAt 9;have m:Mem W cf w (ib ac 32 [iv 0,sn,sn]::ib aJ 97 [pb aK]::ib aK 101 [v0,bE,aL,bF]::ib ce 32 [iv x1,b2,sn]::b3::bG::ib aa 51 [v0]::ib ah 3 [iv ad.2]::H):=m.eraseAt 8;have m:=m.eraseAt 7;have m:=m.eraseAt 6;?_)))
     obtain rfl:=sj bR
     exact⟨_,Z,_,ce,b2,b3,(gt cc (gt bY (gt b5 (gt b8 cg)))),f.k Z,m,b6⟩
   ·rintro a w ⟨bS,rfl,bT,bU,bV,bW,ch,f,m,ci⟩
    refine have bI:=od3 ch bI;Ag (Ae (AG 1 0 m Dy f Z Z Z Z λa f=>l_o f (AH (f.e Z)) λa f=>Bu underlying101 Z sizeOf79 f Z λa f=>AG 2 3 m Pl79 f Z Z Z Z λa f=>BJ 5 m bI Z underlying79 f Z Z λa f=>Ab f Z λa f=>Aa ?_))
    obtain⟨cj,m,ck⟩:=Ow.nil R1 30 m
    have⟨cl,cm,hd⟩:=bind_some hd
    refine AL (λa w=>∃cn:LL,cn=cl∧∃(co:GH) (cp:Value) (cq:Itm),GLe bT co∧Fr a 69 [(4,pb ac),(11,pb bU)]∧Mem W co w (ib ac 32 [iv 0,sn,sn]::ib bU 32 [iv x1,bV,cp]::bW::cq::H)∧Ow R1 30 co cq cp cn) ?_ ?_
    ·refine Ao (have m:=m.fr 5;have m:=m.fr 6;have m:=m.fr 6;have m:Mem W bT w (ib ac 32 [iv 0,sn,sn]::ib bU 32 [iv x1,bV,sn]::bG::bW::cj::ib aJ 97 [pb aK]::ib aK 101 [v0,bE,aL,bF]::H):=m.fr 4;have m:=m.eraseAt 6;have m:=m.eraseAt 5;AM (λcr a w=>∃ct:Int,∃cu:LL,(ct,cu)=cr∧∃(cv:GH) (cw:Value) (cx:Itm),GLe bT cv∧Fr a 69 [(4,pb ac),(11,pb bU),(54,bF),(55,(iv (bw.2.2.length:Int))),(56,iv ct)]∧Mem W cv w (ib ac 32 [iv 0,sn,sn]::ib bU 32 [iv x1,bV,cw]::bG::bW::cx::H)∧Ow R1 30 cv cx cw cu) cm ⟨_,_,Z,_,sn,cj,gr,f.k Z,m,ck⟩ ?_)
     clear cm f m
     rintro cr cy cz cA a w ⟨ct,cu,rfl,cv,cw,cx,cB,f,m,cC⟩
     refine have bI:=od3 cB bI;Ae (Ah f Z Z AV λa f=>Aa (Ag ?_))
     rcases Af cz with⟨cD,cz⟩|⟨cD,cz⟩
     ·refine Al f Z cD (Ap (Ag (Ao (Ae (Bd cz λcE cF cz=>Bq 2 m bI Z T79 f Z Z Z cF λcG a cH f=>BW 2 m bI Z Ds f Z Z cH cF λcI a cJ f=>Ac f Z λa f=>Aa (A5 5 AF (by kernel_rfl) m (BE 0 5 underlying32 Z sizeOf24 Z f Z λa f=>Bf 1 5 1 BC Z Z Z f Z λa f=>Aj 2 5 Z f Z λa f=>Bh 3 Z λcK w cL m cM cM=>have cJ:=rd1 cL cJ;have cC:=od3 cL cC;Bd cz λcN cO cz=>BP f Z call84 (Wk.u m cJ cO) λcP cQ cR w cS m cT a f=>have cC:=od3 cS cC;Aa (cM cR [cQ] _ _ cS m (Bh 4 Z λcU w cV m cW cW=>have cT:=od1 cV cT;have cC:=od3 cV cC;?_)))))))))
      obtain⟨cX,cY,m,cZ⟩:=Ow.stamp (RI.mono _) cT m
      refine have cC:=od3 cY cC;A9 (R:=R1) (xs:=([cN]:LL)) (RSl.one _) m T24 f Z Z Z (by decide) (All2.cons cZ (All2.nil _)) λc0 c1 w a m c2 f=>Aa (cW cX [c0] _ _ cY m (AO λc3 w c4 m=>have c2:=od3 c4 c2;have cC:=od3 c4 cC;Bd cz λc5 c6 cz=>Bm (RSl.one _) 5 m cC Z T24 Z (by decide) f Z Z Z (Ow.src (j:=0) c2 m Z) c6 λc7 c8 w a m c9 f=>Bu underlying32 Z sizeOf24 f Z λa f=>Am 2 2 (ds:=[c8]) m sizeOf24 f Z Z (Ow.cells 5 m c9 Z) (Ak (Ow.one1 5 m c9 Z) As) Z (lb Z) Z λw m=>Aa (Aq (Ah f Z Z Ax λa f=>Ab f Z λa f=>Aa (have m:=m.fr 5;have m:=m.fr 5;have m:=m.fr 5;have m:Mem W c3 w (ib bU 32 [iv x1,bV,c8]::bG::bW::c7::c0::ib ac 32 [iv 0,sn,sn]::H):=m.fr 5;have m:=m.fr 5;have m:=m.eraseAt 5;?_)))))
      obtain rfl:=sj cz
      exact⟨_,Z,_,_,Z,_,c8,c7,(gt cB (gt cL (gt cS (gt cV (gt cY c4))))),f.k Z,m,c9⟩
     ·refine Ai f Z cD (AK Z (have m:=m.fr 4;have m:=m.fr 4;have m:=m.fr 3;have m:Mem W cv w (ib ac 32 [iv 0,sn,sn]::ib bU 32 [iv x1,bV,cw]::bW::cx::bG::H):=m.fr 3;have m:=m.eraseAt 4;?_))
      obtain rfl:=sj cz
      obtain rfl:=cA _ rfl
      exact⟨_,Z,_,cw,cx,cB,f.k Z,m,cC⟩
    ·rintro a w ⟨cn,rfl,co,cp,cq,da,f,m,db⟩
     refine have ci:=od1 da ci;Ae (AA 1 0 (ds:=[iv x1,bV,cp]) m Ag32 f Z Z Z Z Z λa f=>Am 0 0 (ds:=[iv x1,bV,cp]) m sizeOf32 f Z Z Z (Ak Z (Ak (Ow.one1 2 m ci Z) (Ak (Ow.one1 3 m db Z) As))) Z (lb Z) Z λw m=>Ac f Z λa f=>Aa (Ar (have dc:=Bi (P:=prog) 0 m Ag32 f (s:=4) rfl rfl rfl;have m:=m.fr 3;have m:=m.fr 3;have m:=m.eraseAt 3;have m:=m.eraseAt 2;?_)))
     obtain rfl:=sj hd
     exact⟨[(.agg #[iv x1,bV,cp]),(.bool true)],⟨dc,f.get _ _ Z,trivial⟩,f.d,_,[bW,cq],(gt ag (gt an (gt aC (gt bd (gt bg (gt bo (gt br (gt bu (gt bC (gt ch da)))))))))),m,_,_,_,_,Z,Z,ci,db⟩
theorem Wk.T {aa:Value}{ab:LL}{x1:Int}(hW:Cs W)(m:Mem W G w (H))(ac:R2 G aa ab){y:Int×(LI)×(LL)×Bool}(hd:D.T ab x1=some y):
  Calls prog 22 #[(.agg #[aa]),iv x1] w (Res W G H (λG' Ho v=>∃r0:Value,∃i0:Itm,∃r2:Value,∃i2:Itm,Ho=[i0,i2]∧v= .tuple #[(.agg #[iv y.1,r0,r2]),(.bool y.2.2.2)]∧Ow R0 2 G' i0 r0 y.2.1∧Ow R1 30 G' i2 r2 y.2.2.1)):=by
 refine Au (args:=[(.agg #[aa]),iv x1]) (N:=27) [.cell 4 32,.tmp 5] func22 Z Z (lb Z) Z λa f=> ?_
 unfold D.T at hd
 refine Ae (Bz (cs:=[aa]) m f Z Z Z λad w a m f=>AP (cs:=[iv 0,sn,sn]) zeroValue32 m f Z Z λae w a m f=>Ac f Z λa f=>Aa (Ag (Ae (Ab f Z λa f=>Bd hd λaf ag hd=>Bj f Z call42 (Wk.z m ag) λah w ai m a f=>have ac:=rd2 ai ac;Ab f Z λa f=>l_o f (AE (f.e Z) Z) λa f=>l_o f (AE (f.e Z) Z) λa f=>Ac f Z λa f=>Ac f Z λa f=>Ay (AA 1 0 (ds:=[aa]) m AJ f Z Z Z Z Z λa f=>Bd hd λaj ak hd=>Bj f Z call43 (Wk.p0 m ac ak) λal w am m a f=>have ac:=rd2 am ac;l_o f (BN (f.e Z)) λa f=>Ab f Z λa f=> ?_)))))
 refine BF 3 (λa w=>∃an,GLe al an∧Mem W an w (ib ae 32 [iv 0,sn,sn]::ib ad 26 [aa]::H)∧Fr a 27 [(0,(.agg #[aa])),(1,iv x1),(2,pb ad),(4,pb ae),(6,iv af.1),(7,iv af.2),(13,(.agg #[aa])),(14,(.bool aj)),(15,(.bool (!aj))),(16,(.bool (!aj))),(19,(.bool ((!aj)||(af.1==0))))]) ?_ ?_
 ·rcases Bool.eq_false_or_eq_true (!aj) with ao|ao
  ·exact AC f ao λa f=>AC f ao λa f=>l_o f (AY (f.e Z) ao (f.e Z)) λa f=>⟨_,gr,m,f.weak ⟨Z,Z,Z,Z,Z,Z,Z,Z,Z,Z,by rw[ao];rfl,trivial⟩⟩
  ·exact AB f ao (Ab f Z λa f=>AB f ao (Ah f Z Z BA λa f=>l_o f (AX (f.e Z) ao (f.e Z)) λa f=>⟨_,gr,m,f.weak ⟨Z,Z,Z,Z,Z,Z,Z,Z,Z,Z,by rw[ao];rfl,trivial⟩⟩))
 ·rintro a w ⟨an,ap,m,f⟩
  refine have ac:=rd2 ap ac;Aa ?_
  rcases Af hd with⟨aq,hd⟩|⟨aq,hd⟩
  ·refine Al f Z aq (Ae ?_)
   have ar:∀w,(Instr.build 32 #[]).run prog w= .ok (.agg #[iv 0,sn,sn]) w:=by intro w;simp[Instr.build,Instr.fill,Bb,A6,AT,A2,AQ,Bc,A7]
   refine Bv f Z Z ar λa f=>Am 0 0 (ds:=[iv 0,sn,sn]) m sizeOf32 f Z Z Z (Ak Z (Ak Z (Ak Z As))) Z (lb Z) Z λw m=>Ac f Z λa f=>Aa (Ar ?_)
   obtain⟨au,m,av⟩:=Ow.nil R0 2 m
   obtain⟨aw,m,ax⟩:=Ow.nil R1 30 m
   refine have ay:=Bi (P:=prog) 2 m Ag32 f (s:=4) rfl rfl rfl;have m:=m.fr 1;have m:=m.eraseAt 3;have m:=m.eraseAt 2;?_
   obtain rfl:=sj hd
   exact⟨[(.agg #[iv 0,sn,sn]),(.bool false)],⟨ay,f.get _ _ Z,trivial⟩,f.d,_,[au,aw],(gt ai (gt am ap)),m,_,_,_,_,Z,Z,av,ax⟩
  ·refine Ai f Z aq (Ap (Ae (AA 1 0 (ds:=[aa]) m AJ f Z Z Z Z Z λa f=>Bd hd λaz aA hd=>BP f Z call30 (Wk.J m ac aA) λaB aC aD w aE m aF a f=>Ab f Z λa f=> ?_)))
   obtain⟨aG,aH,m,aI⟩:=Ow.stamp (RI.mono _) aF m
   refine Bd hd λaJ aK hd=>AI f Z call44 (Wk.g hW m aI aK) λaL aM aN w aO m aP a f=> ?_
   obtain⟨aQ,aR,aS,aT,rfl,rfl,aU,aV⟩:=aP
   refine l_o f (AE (f.e Z) Z) λa f=>l_o f (AE (f.e Z) Z) λa f=>Am 2 0 (ds:=[iv aJ.1,aQ,aS]) m sizeOf32 f Z Z Z (Ak Z (Ak (Ow.one1 0 m aU Z) (Ak (Ow.one1 1 m aV Z) As))) Z (lb Z) Z λw m=>Ac f Z λa f=>Aa (Ar (have aW:=Bi (P:=prog) 2 m Ag32 f (s:=4) rfl rfl rfl;have m:=m.eraseAt 3;have m:=m.eraseAt 2;?_))
   obtain rfl:=sj hd
   exact⟨[(.agg #[iv aJ.1,aQ,aS]),(.bool aJ.2.2.2)],⟨aW,f.get _ _ Z,trivial⟩,f.d,_,[aR,aT],(gt ai (gt am (gt ap (gt aE (gt aH aO))))),m,_,_,_,_,Z,Z,aU,aV⟩
theorem Wk.E1 {aa:Value}{ab:LL}(hW:Cs W)(m:Mem W G w (H))(ac:R2 G aa ab){y:Int×(LI)×(LL)×Bool}(hd:D.E1 ab=some y):
  Calls prog 8 #[(.agg #[aa])] w (Res W G H (λG' Ho v=>∃r0:Value,∃i0:Itm,∃r2:Value,∃i2:Itm,Ho=[i0,i2]∧v= .tuple #[(.agg #[iv y.1,r0,r2]),(.bool y.2.2.2)]∧Ow R0 2 G' i0 r0 y.2.1∧Ow R1 30 G' i2 r2 y.2.2.1)):=by
 refine Au (args:=[(.agg #[aa])]) (N:=17) [.cell 2 32,.tmp 3] func8 Z Z (lb Z) Z λa f=> ?_
 unfold D.E1 at hd
 refine Ae (Bz (cs:=[aa]) m f Z Z Z λad w a m f=>AP (cs:=[iv 0,sn,sn]) zeroValue32 m f Z Z λae w a m f=>Ac f Z λa f=>Aa (Ag (Ae (AA 1 0 (ds:=[aa]) m AJ f Z Z Z Z Z λa f=>Bd hd λaf ag hd=>AI f Z call22 (Wk.T hW m ac ag) λah ai aj w ak m al a f=> ?_))))
 obtain⟨am,an,ao,ap,rfl,rfl,aq,ar⟩:=al
 refine have ac:=rd2 ak ac;Ab f Z λa f=>l_o f (AE (f.e Z) Z) λa f=>l_o f (AE (f.e Z) Z) λa f=>AP (cs:=[iv 0,sn,sn]) zeroValue32 m f Z Z λau w a m f=>Am 0 0 (ds:=[iv af.1,am,ao]) m sizeOf32 f Z Z Z (Ak Z (Ak (Ow.one1 1 m aq Z) (Ak (Ow.one1 2 m ar Z) As))) Z (lb Z) Z λw m=>Ac f Z λa f=>Ay (Ab f Z λa f=>Aa ?_)
 rcases Af hd with⟨av,hd⟩|⟨av,hd⟩
 ·refine Al f Z av (Ae (AA 0 0 (ds:=[iv af.1,am,ao]) m Ag32 f Z Z Z Z Z λa f=>Am 3 0 (ds:=[iv af.1,am,ao]) m sizeOf32 f Z Z Z (Ak Z (Ak (Ow.one1 1 m aq Z) (Ak (Ow.one1 2 m ar Z) As))) Z (lb Z) Z λw m=>Ac f Z λa f=>Aa (Ar (have aw:=Bi (P:=prog) 3 m Ag32 f (s:=2) rfl rfl rfl;have m:=m.fr 2;have m:=m.fr 2;have m:=m.eraseAt 4;have m:Mem W ai w (an::ap::ib au 32 [iv af.1,am,ao]::H):=m.eraseAt 3;have m:=m.eraseAt 2;?_))))
  obtain rfl:=sj hd
  exact⟨[(.agg #[iv af.1,am,ao]),(.bool true)],⟨aw,f.get _ _ Z,trivial⟩,f.d,_,[an,ap],ak,m,_,_,_,_,Z,Z,aq,ar⟩
 ·refine Ai f Z av (Ap (Ae (AA 4 0 (ds:=[aa]) m AJ f Z Z Z Z Z λa f=>Bd hd λax ay hd=>AI f Z call22 (Wk.T hW m ac ay) λaz aA aB w aC m aD a f=> ?_)))
  obtain⟨aE,aF,aG,aH,rfl,rfl,aI,aJ⟩:=aD
  refine l_o f (AE (f.e Z) Z) λa f=>l_o f (AE (f.e Z) Z) λa f=>Am 5 0 (ds:=[iv ax.1,aE,aG]) m sizeOf32 f Z Z Z (Ak Z (Ak (Ow.one1 0 m aI Z) (Ak (Ow.one1 1 m aJ Z) As))) Z (lb Z) Z λw m=>Ac f Z λa f=>Aa (Ar (have aK:=Bi (P:=prog) 5 m Ag32 f (s:=2) rfl rfl rfl;have m:=m.fr 4;have m:=m.fr 4;have m:=m.fr 3;have m:Mem W aA w (aF::aH::an::ap::ib au 32 [iv af.1,am,ao]::ib ae 32 [iv ax.1,aE,aG]::ib ad 26 [aa]::H):=m.fr 3;have m:=m.eraseAt 6;have m:=m.eraseAt 5;have m:=m.eraseAt 4;have m:Mem W aA w (aF::aH::an::H):=m.eraseAt 3;have m:=m.eraseAt 2;?_))
  obtain rfl:=sj hd
  exact⟨[(.agg #[iv ax.1,aE,aG]),(.bool ax.2.2.2)],⟨aK,f.get _ _ Z,trivial⟩,f.d,_,[aF,aH],(gt ak aC),m,_,_,_,_,Z,Z,aI,aJ⟩
theorem Wk.e1 {aa:Value}{ab:LL}(m:Mem W G w (H))(ac:R2 G aa ab){y:(LL)}(hd:D.e1 ab=some y):
  Calls prog 25 #[(.agg #[aa])] w (Res W G H (λG' Ho v=>∃r0:Value,∃i0:Itm,Ho=[i0]∧r0=v∧Ow R1 30 G' i0 r0 y)):=by
 refine Au (args:=[(.agg #[aa])]) (N:=35) [.tmp 2] func25 Z Z (lb Z) Z λa f=> ?_
 unfold D.e1 at hd
 refine Ae (Bz (cs:=[aa]) m f Z Z Z λad w a m f=>Ac f Z λa f=>Ay (A9 (R:=R1) (xs:=([]:LL)) (RSl.one _) m T24 f Z Z Z (by decide) (All2.nil _) λae af w a m ag f=>Ac f Z λa f=>Aa (Ag (Ae (Bu underlying26 Z sizeOf24 f Z λa f=>AG 1 0 m BC f Z Z Z Z λa f=>Bg underlying24 f Z Z ac λa f=>Ab f Z λa f=>Aa (Bd hd λah ai hd=> ?_))))))
 refine AL (λa w=>∃aj:LL,aj=ah∧∃(ak:GH) (al:Value) (am:Itm),GLe G ak∧Fr a 35 [(3,al)]∧Mem W ak w (am::H)∧Ow R1 30 ak am al aj) ?_ ?_
 ·refine Ao (have m:=m.eraseAt 1;AM (λan a w=>∃ao:LL,∃ap:Int,(ao,ap)=an∧∃(aq:GH) (ar:Value) (au:Itm),GLe G aq∧Fr a 35 [(3,ar),(10,aa),(11,(iv (ab.length:Int))),(12,iv ap)]∧Mem W aq w (au::H)∧Ow R1 30 aq au ar ao) ai ⟨_,_,Z,_,af,ae,gr,f.k Z,m,ag⟩ ?_)
  clear ai f m
  rintro an av aw ax a w ⟨ao,ap,rfl,aq,ar,au,ay,f,m,az⟩
  refine have ac:=rd2 ay ac;Ae (Ah f Z Z AV λa f=>Aa (Ag ?_))
  rcases Af aw with⟨aA,aw⟩|⟨aA,aw⟩
  ·refine Al f Z aA (Ap (Ag (Ao (Ae (Ab f Z λa f=>Bd aw λaB aC aw=>BI T24 f Z Z Z ac aC λaD aE a aF aG f=>A3 m BU f Z Z aF λa f=>Ac f Z λa f=>Ac f Z λa f=>Ay (Ab f Z λa f=>Bg underlying30 f Z Z aG λa f=>Ab f Z λa f=>Aa (Bd aw λaH aI aw=> ?_)))))))
   refine AL (λa w=>∃aJ:LL,aJ=aH∧∃(aK:GH) (aL:Value) (aM:Itm),GLe aq aK∧Fr a 35 [(3,aL),(10,aa),(11,(iv (ab.length:Int))),(12,iv ap)]∧Mem W aK w (aM::H)∧Ow R1 30 aK aM aL aJ) ?_ ?_
   ·refine Ao (AM (λaN a w=>∃aO:LL,∃aP:Int,(aO,aP)=aN∧∃(aQ:GH) (aR:Value) (aS:Itm),GLe aq aQ∧Fr a 35 [(3,aR),(4,iv ap),(10,aa),(11,(iv (ab.length:Int))),(12,iv ap),(17,aE),(18,(iv (aB.length:Int))),(19,iv aP)]∧Mem W aQ w (aS::H)∧Ow R1 30 aQ aS aR aO) aI ⟨_,_,Z,_,ar,au,gr,f.k Z,m,az⟩ ?_)
    clear aI f m
    rintro aN aT aU aV a w ⟨aO,aP,rfl,aQ,aR,aS,aW,f,m,aX⟩
    refine have aG:=rd1 aW aG;Ae (Ah f Z Z AV λa f=>Aa (Ag ?_))
    rcases Af aU with⟨aY,aU⟩|⟨aY,aU⟩
    ·refine Al f Z aY (Ap (Ag (Ao (Ae (Bd aU λaZ a0 aU=>BI T30 f Z Z Z aG a0 λa1 a2 a a3 a4 f=> ?_)))))
     subst a4
     refine A3 m Pl2 f Z Z a3 λa f=>Ac f Z λa f=>Ay (Ab f Z λa f=>Ab f Z λa f=>Ah f Z Z AV λa f=>Aa ?_)
     rcases Af aU with⟨a5,aU⟩|⟨a5,aU⟩
     ·refine Al f Z a5 (Aq (Ab f Z λa f=>Ab f Z λa f=>Ab f Z λa f=>A9 (R:=R0) (xs:=([ap,aZ]:LI)) (RI.one _) m T30 f Z Z Z (by decide) (All2.cons Z (All2.cons Z (All2.nil _))) λa6 a7 w a m a8 f=> ?_))
      obtain⟨a9,ba,m,bb⟩:=Ow.stamp (RI.mono _) a8 m
      refine have aX:=od3 ba aX;A9 (R:=R1) (xs:=([([ap,aZ]:LI)]:LL)) (RSl.one _) m T24 f Z Z Z (by decide) (All2.cons bb (All2.nil _)) λbc bd w a m be f=>Bd aU λbf bg aU=>Bm (RSl.one _) 1 m aX Z T24 Z (by decide) f Z Z Z (Ow.src (j:=0) be m Z) bg λbh bi w a m bj f=>Ac f Z λa f=>Aa (Aq (Ah f Z Z Ax λa f=>Ab f Z λa f=>Aa (have m:=m.fr 1;have m:=m.eraseAt 1;?_)))
      obtain rfl:=sj aU
      exact⟨_,Z,_,_,Z,_,bi,bh,(gt aW ba),f.k Z,m,bj⟩
     ·refine Ai f Z a5 (Ap (Aq (Ah f Z Z Ax λa f=>Ab f Z λa f=>Aa ?_)))
      obtain rfl:=sj aU
      exact⟨_,Z,_,_,Z,_,aR,aS,aW,f.k Z,m,aX⟩
    ·refine Ai f Z aY (AK Z ?_)
     obtain rfl:=sj aU
     obtain rfl:=aV _ rfl
     exact⟨_,Z,_,aR,aS,aW,f.k Z,m,aX⟩
   ·rintro a w ⟨aJ,rfl,aK,aL,aM,bk,f,m,bl⟩
    refine Aq (Ah f Z Z Ax λa f=>Ab f Z λa f=>Aa ?_)
    obtain rfl:=sj aw
    exact⟨_,Z,_,_,Z,_,aL,aM,(gt ay bk),f.k Z,m,bl⟩
  ·refine Ai f Z aA (AK Z ?_)
   obtain rfl:=sj aw
   obtain rfl:=ax _ rfl
   exact⟨_,Z,_,ar,au,ay,f.k Z,m,az⟩
 ·rintro a w ⟨aj,rfl,ak,al,am,bm,f,m,bn⟩
  refine Ae (Ab f Z λa f=>Ac f Z λa f=>Aa (Ar ?_))
  obtain rfl:=sj hd
  exact⟨[al],f.g Z,f.d,_,[am],bm,m,_,_,Z,Z,bn⟩
theorem Wk.f1 {aa ab:Value}{ac:Int}{ad:LI}{ae:LL}(hW:Cs W)(m:Mem W G w (H))(af:R1 G aa ad)(ag:R2 G ab ae){y:(LL)}(hd:D.f1 ac ad ae=some y):
  Calls prog 9 #[(.agg #[iv ac,aa,ab])] w (Res W G H (λG' Ho v=>∃r0:Value,∃i0:Itm,Ho=[i0]∧r0=v∧Ow R1 30 G' i0 r0 y)):=by
 refine Au (args:=[(.agg #[iv ac,aa,ab])]) (N:=57) [.tmp 2] func9 Z Z (lb Z) Z λa f=> ?_
 unfold D.f1 at hd
 refine Ae (Bz (cs:=[iv ac,aa,ab]) m f Z Z Z λah w a m f=>Ac f Z λa f=>Aa (Ag (Ae (Bu underlying32 Z sizeOf24 f Z λa f=>AG 0 2 m BC f Z Z Z Z λa f=>Bg underlying24 f Z Z ag λa f=>Ah f Z Z Ci λa f=>Aa ?_))))
 rcases Af hd with⟨ai,hd⟩|⟨ai,hd⟩
 ·refine Al f Z ai (Ae (Ac f Z λa f=>Aa (Ar ?_)))
  obtain⟨aj,m,ak⟩:=Ow.nil R1 30 m
  have m:=m.eraseAt 1
  obtain rfl:=sj hd
  exact⟨[sn],f.g Z,f.d,_,[aj],gr,m,_,_,Z,Z,ak⟩
 ·refine Ai f Z ai (Ap (Ae (Bd hd λal am hd=>Fb (R:=(RI .u32)) m T51 Z (by decide) Z f Z Z Z am λan ao w a m ap f=>Ac f Z λa f=>Aa (Ag (Ae (Bu underlying32 Z sizeOf24 f Z λa f=>AG 1 2 m BC f Z Z Z Z λa f=>Bg underlying24 f Z Z ag λa f=>Ab f Z λa f=>Aa (Bd hd λaq ar hd=> ?_)))))))
  refine AL (λa w=>∃q_510':LI,aq= .inl q_510'∧∃au:LI,au=q_510'∧∃(av:GH) (aw:Itm),GLe G av∧Fr a 57 [(3,ao)]∧Mem W av w (aw::H)∧Ow (RI .u32) 60 av aw ao au) ?_ ?_
  ·refine Ao (have m:=m.eraseAt 1;AM (λax a w=>∃ay:LI,∃az:Int,(ay,az)=ax∧∃(aA:GH) (aB:Itm),GLe G aA∧Fr a 57 [(3,ao),(14,ab),(15,(iv (ae.length:Int))),(16,iv az)]∧Mem W aA w (aB::H)∧Ow (RI .u32) 60 aA aB ao ay) ar ⟨_,_,Z,_,an,gr,f.k Z,m,ap⟩ ?_)
   clear ar f m
   rintro ax aC aD aE a w ⟨ay,az,rfl,aA,aB,aF,f,m,aG⟩
   refine have ag:=rd2 aF ag;Ae (Ah f Z Z AV λa f=>Aa (Ag ?_))
   rcases Af aD with⟨aH,aD⟩|⟨aH,aD⟩
   ·refine Al f Z aH (Ap (Ag (Ao (Ae (Bd aD λaI aJ aD=>BI T24 f Z Z Z ag aJ λaK aL a aM aN f=>A3 m BU f Z Z aM λa f=>Ac f Z λa f=>Aa (Ag (Ae (Ab f Z λa f=>Bg underlying30 f Z Z aN λa f=>Ah f Z Z Ci λa f=>Aa ?_))))))))
    rcases Af aD with⟨aO,aD⟩|⟨aO,aD⟩
    ·refine Al f Z aO (Ae (Ac f Z λa f=>Aa (Ar ?_)))
     obtain⟨aP,m,aQ⟩:=Ow.nil R1 30 m
     have m:=m.eraseAt 1
     obtain rfl:=sj aD
     obtain rfl:=aE _ rfl
     obtain rfl:=sj hd
     exact⟨[sn],f.g Z,f.d,_,[aP],aF,m,_,_,Z,Z,aQ⟩
    ·refine Ai f Z aO (Ap (Ae (Ab f Z λa f=>Bg underlying30 f Z Z aN λa f=>Ab f Z λa f=>Aa (Bd aD λaR aS aD=> ?_))))
     refine AL (λa w=>∃q_897':LI,aR= .inl q_897'∧∃aT:LI,aT=q_897'∧∃(aU:GH) (aV:Itm),GLe aA aU∧Fr a 57 [(3,ao),(14,ab),(15,(iv (ae.length:Int))),(16,iv az)]∧Mem W aU w (aV::H)∧Ow (RI .u32) 60 aU aV ao aT) ?_ ?_
     ·refine Ao (AM (λaW a w=>∃aX:LI,∃aY:Int,(aX,aY)=aW∧∃(aZ:GH) (a0:Itm),GLe aA aZ∧Fr a 57 [(3,ao),(5,aL),(14,ab),(15,(iv (ae.length:Int))),(16,iv az),(23,aL),(24,(iv (aI.length:Int))),(25,iv aY)]∧Mem W aZ w (a0::H)∧Ow (RI .u32) 60 aZ a0 ao aX) aS ⟨_,_,Z,_,aB,gr,f.k Z,m,aG⟩ ?_)
      clear aS f m
      rintro aW a1 a2 a3 a w ⟨aX,aY,rfl,aZ,a0,a4,f,m,a5⟩
      refine have aN:=rd1 a4 aN;Ae (Ah f Z Z AV λa f=>Aa (Ag ?_))
      rcases Af a2 with⟨a6,a2⟩|⟨a6,a2⟩
      ·refine Al f Z a6 (Ap (Ag (Ao (Ae (Ab f Z λa f=>Bd a2 λa7 a8 a2=>BI T30 f Z Z Z aN a8 λa9 ba a bb bc f=> ?_)))))
       subst bc
       refine A3 m Pl2 f Z Z bb λa f=>Ac f Z λa f=>Ac f Z λa f=>Aa (Ag (Ae (Ab f Z λa f=>Bd a2 λbd be a2=>Bj f Z call23 (Wk.A0 m be) λbf w bg m a f=>have aN:=rd1 bg aN;have a5:=od1 bg a5;l_o f (BN (f.e Z)) λa f=>Aa ?_)))
       rcases Af a2 with⟨bh,a2⟩|⟨bh,a2⟩
       ·refine Al f Z bh (Ae (Ac f Z λa f=>Aa (Ar ?_)))
        obtain⟨bi,m,bj⟩:=Ow.nil R1 30 m
        have m:=m.eraseAt 1
        obtain rfl:=sj a2
        obtain rfl:=a3 _ rfl
        obtain rfl:=sj aD
        obtain rfl:=aE _ rfl
        obtain rfl:=sj hd
        exact⟨[sn],f.g Z,f.d,_,[bi],(gt aF (gt a4 bg)),m,_,_,Z,Z,bj⟩
       ·refine Ai f Z bh (Ap (Ae (Ab f Z λa f=>Ah f Z Z Ci λa f=>Ab f Z λa f=>Bd a2 λbk bl a2=> ?_)))
        refine BF 8 (λa w=>∃bm,GLe bf bm∧Mem W bm w (a0::H)∧Fr a 57 [(3,ao),(5,aL),(6,iv aY),(7,iv a7),(14,ab),(15,(iv (ae.length:Int))),(16,iv az),(23,aL),(24,(iv (aI.length:Int))),(25,iv aY),(32,(.bool (!bd))),(33,iv aY),(34,(.bool (decide ((0:Int)<aY)))),(35,(.bool (decide ((0:Int)<aY)))),(43,(.bool bk))]) ?_ ?_
        ·rcases Af bl with⟨bn,bl⟩|⟨bn,bl⟩
         ·refine AB f bn (Ab f Z λa f=>AB f bn (Ab f Z λa f=>AB f bn (Ah f Z Z Be λa f=>AB f bn (Bd bl λbo bp bl=>BI T30 f Z Z Z aN bp λbq br a bs bt f=> ?_))))
          subst bt
          refine AB f bn (A3 m Pl2 f Z Z bs λa f=>AB f bn (Ab f Z λa f=>AB f bn (Ah f Z Z Dc λa f=>l_o f (AY (f.e Z) bn (f.e Z)) λa f=> ?_)))
          obtain rfl:=sj bl
          exact⟨_,gr,m,f.k Z⟩
         ·refine AC f bn λa f=>AC f bn λa f=>AC f bn λa f=>AC f bn λa f=>AC f bn λa f=>AC f bn λa f=>AC f bn λa f=>l_o f (AX (f.e Z) bn (f.e Z)) λa f=> ?_
          obtain rfl:=sj bl
          exact⟨_,gr,m,f.k Z⟩
        ·rintro a w ⟨bm,bu,m,f⟩
         refine have aN:=rd1 bu aN;have a5:=od1 bu a5;Aa ?_
         rcases Af a2 with⟨bv,a2⟩|⟨bv,a2⟩
         ·refine Al f Z bv (Aq (Ab f Z λa f=>Ab f Z λa f=>Ab f Z λa f=>Ah f Z Z Be λa f=>Bd a2 λbw bx a2=>BI T30 f Z Z Z aN bx λbz bA a bB bC f=> ?_))
          subst bC
          refine A3 m Pl2 f Z Z bB λa f=>Ab f Z λa f=>Bd a2 λbD bE a2=>AI f Z call24 (Wk.F m a5 bE) λbF bG bH w bI m bJ a f=> ?_
          obtain⟨bK,rfl,bL⟩:=bJ
          refine Aa (Aq (Ah f Z Z Ax λa f=>Ab f Z λa f=>Aa ?_))
          obtain rfl:=sj a2
          exact⟨_,Z,_,_,Z,_,bK,(gt a4 (gt bg (gt bu bI))),f.k Z,m,bL⟩
         ·refine Ai f Z bv (Ap (Aq (Ah f Z Z Ax λa f=>Ab f Z λa f=>Aa ?_)))
          obtain rfl:=sj a2
          exact⟨_,Z,_,_,Z,_,a0,(gt a4 (gt bg bu)),f.k Z,m,a5⟩
      ·refine Ai f Z a6 (AK Z ?_)
       obtain rfl:=sj a2
       obtain rfl:=a3 _ rfl
       exact⟨_,Z,_,Z,_,a0,a4,f.k Z,m,a5⟩
     ·rintro a w ⟨_,rfl,aT,rfl,aU,aV,bM,f,m,bN⟩
      refine Aq (Ah f Z Z Ax λa f=>Ab f Z λa f=>Aa ?_)
      obtain rfl:=sj aD
      exact⟨_,Z,_,_,Z,_,aV,(gt aF bM),f.k Z,m,bN⟩
   ·refine Ai f Z aH (AK Z ?_)
    obtain rfl:=sj aD
    obtain rfl:=aE _ rfl
    exact⟨_,Z,_,Z,_,aB,aF,f.k Z,m,aG⟩
  ·rintro a w ⟨_,rfl,au,rfl,av,aw,bO,f,m,bP⟩
   refine Ae (Ab f Z λa f=> ?_)
   obtain⟨bQ,bR,m,bS⟩:=Ow.stamp (RI.mono _) bP m
   refine Bd hd λbT bU hd=>AI f Z call26 (Wk.g0 hW m bS bU) λbV bW bX w bY m bZ a f=> ?_
   obtain⟨b0,b1,rfl,rfl,b2⟩:=bZ
   obtain⟨b3,b4,m,b5⟩:=Ow.stamp (RSl.mono (RI.mono _)) b2 m
   refine Bd hd λb6 b7 hd=>BP f Z call25 (Wk.e1 m b5 b7) λb8 b9 ca w cb m cc a f=>Ac f Z λa f=>Aa (Ar ?_)
   obtain rfl:=sj hd
   exact⟨[b8],f.g Z,f.d,_,[b9],(gt bO (gt bR (gt bY (gt b4 cb)))),m,_,_,Z,Z,cc⟩
theorem Wk.v1 {v0:Value}{x0:LI}{x1:Int}(m:Mem W G w (H))(h0:RSl (RI .u8) G v0 x0){y:(LI)×Int×Int}(hd:D.v1 x0 x1=some y):
  Calls prog 11 #[v0,(.int .u64 x1)] w (Res W G H (λG' Ho v=>∃r0:Value,∃c1:Nat,Ho=[ib c1 56 [r0,iv y.2.1,(.int .u64 y.2.2)]]∧v=(pb c1)∧RSl (RI .u8) G' r0 y.1)):=by
 refine Au (args:=[v0,(.int .u64 x1)]) (N:=38) [.tmp 4] func11 Z Z (lb Z) Z λa f=> ?_
 unfold D.v1 at hd
 refine Ae (Ac f Z λa f=>Ay (Ab f Z λa f=>Ab f Z λa f=>Ah f Z Z C4 λa f=>Ab f Z λa f=>Bg underlying22 f Z Z h0 λa f=>l_o f (C5 (f.e Z) ⟨_,underlying3⟩ underlying39) λa f=>Ah f Z Z Ax λa f=> ?_))
 have aa:∀w,(Instr.build 56 #[(0,v0),(2,(.int .u64 (IntKind.u64.wrap ((IntKind.u64.wrap (x1*7919))+(IntKind.u64.wrap (x0.length:Int))))))]).run prog w= .ok (.agg #[v0,iv 0,(.int .u64 (IntKind.u64.wrap ((IntKind.u64.wrap (x1*7919))+(IntKind.u64.wrap (x0.length:Int)))))]) w:=by intro w;simp[Instr.build,Instr.fill,h0.cells,Bb,A6,AT,A2,AQ,Bc,A7]
 refine Bv f Z Z aa λa f=>Bz (cs:=[v0,iv 0,(.int .u64 (IntKind.u64.wrap ((IntKind.u64.wrap (x1*7919))+(IntKind.u64.wrap (x0.length:Int)))))]) m f Z Z Z λab w a m f=>Ac f Z λa f=>Aa (Ag (Ae (Ac f Z λa f=>Aa (Bd hd λac ad hd=> ?_))))
 refine AL (λa w=>∃ae:Int,ae=ac∧∃(af:GH),GLe G af∧Fr a 38 [(5,pb ab)]∧Mem W af w (ib ab 56 [v0,iv 0,(.int .u64 ae)]::H)) ?_ ?_
 ·refine Ao (AM (λag a w=>∃ah:Int,∃ai:Int,(ah,ai)=ag∧∃(aj:GH),GLe G aj∧Fr a 38 [(0,v0),(5,pb ab),(6,iv ah)]∧Mem W aj w (ib ab 56 [v0,iv 0,(.int .u64 ai)]::H)) ad ⟨_,_,Z,_,gr,f.k Z,m⟩ ?_)
  clear ad f m
  rintro ag ak al am a w ⟨ah,ai,rfl,aj,an,f,m⟩
  refine have h0:=rd1 an h0;Ag (Ae (Ab f Z λa f=>Ab f Z λa f=>Bg underlying22 f Z Z h0 λa f=>Ah f Z Z AV λa f=>Aa ?_))
  rcases Af al with⟨ao,al⟩|⟨ao,al⟩
  ·refine Al f Z ao (Ap (Ag (Ao (A5 15 AF (by kernel_rfl) m (Aj 0 15 Z f Z λa f=>Aj 1 15 Z f Z λa f=>q_p 2 15 Z f (λ_=>AH (f.e Z)) λa f=>BE 3 15 underlying56 Z sizeOf39 Z f Z λa f=>Bf 4 15 0 Pl39 Z Z Z f Z λa f=>q_p 5 15 Z f (λ_=>A8 (f.e Z) (f.e Z) C4) λa f=>Aj 6 15 Z f Z λa f=>Aj 7 15 Z f Z λa f=>Bd al λap aq al=>Cd 8 15 T22 h0 aq Z f Z Z λar au a av aw f=> ?_)))))
   subst aw
   refine B3 9 15 Pl5 av Z f Z λa f=>q_p 10 15 Z f (λ_=>C5 (f.e Z) ⟨_,underlying5⟩ underlying39) λa f=>q_p 11 15 Z f (λ_=>A8 (f.e Z) (f.e Z) Ax) λa f=>q_p 12 15 Z f (λ_=>A8 (f.e Z) (f.e Z) Ax) λa f=>q_p 13 15 Z f (λ_=>AH (f.e Z)) λa f=>BE 14 15 underlying56 Z sizeOf39 Z f Z λa f=>AO λax w ay m=>Am 0 2 (ds:=[(.int .u64 (IntKind.u64.wrap ((IntKind.u64.wrap ((IntKind.u64.wrap (ai*1099511628211))+(IntKind.u64.wrap ap)))+3)))]) m sizeOf39 f Z Z Z (Ak Z As) Z (lb Z) Z λw m=>Aa (Aq (Ab f Z λa f=>Ah f Z Z Ax λa f=>Ac f Z λa f=>Aa ?_))
   obtain rfl:=sj al
   exact⟨_,Z,_,_,Z,_,(gt an ay),f.k Z,m⟩
  ·refine Ai f Z ao (AK Z ?_)
   obtain rfl:=sj al
   obtain rfl:=am _ rfl
   exact⟨_,Z,_,an,f.k Z,m⟩
 ·rintro a w ⟨ae,rfl,af,az,f,m⟩
  refine have h0:=rd1 az h0;Ae (Ab f Z λa f=>Ac f Z λa f=>Aa (Ar ?_))
  obtain rfl:=sj hd
  exact⟨[pb ab],f.g Z,f.d,_,[ib ab 56 [v0,iv 0,(.int .u64 ae)]],az,m,_,_,Z,Z,h0⟩
theorem Wk.Z0 {b0:Nat}{aa:Value}{ab:LI}{ac ad x1:Int}(m:Mem W G w (ib b0 56 [aa,iv ac,(.int .u64 ad)]::H))(ae:RSl (RI .u8) G aa ab){y:Int×(LI)×Int×Int}(hd:D.Z0 ab ac ad x1=some y):
  Calls prog 12 #[pb b0,iv x1] w (Res W G H (λG' Ho v=>∃r0:Value,Ho=[ib b0 56 [r0,iv y.2.2.1,(.int .u64 y.2.2.2)]]∧v=(iv y.1)∧RSl (RI .u8) G' r0 y.2.1)):=by
 refine Au (args:=[pb b0,iv x1]) (N:=56) [.tmp 4] func12 Z Z (lb Z) Z λa f=> ?_
 unfold D.Z0 at hd
 refine Ae (Ac f Z λa f=>Ay (Ab f Z λa f=>Ab f Z λa f=>l_o f (AH (f.e Z)) λa f=>Bu underlying56 Z sizeOf39 f Z λa f=>AG 0 2 m Pl39 f Z Z Z Z λa f=>Ah f Z Z C4 λa f=>Ah f Z Z Ax λa f=>l_o f (AH (f.e Z)) λa f=>Bu underlying56 Z sizeOf39 f Z λa f=>Am 0 2 (ds:=[(.int .u64 (IntKind.u64.wrap ((IntKind.u64.wrap (ad*6364136223846793005))+1442695040888963407)))]) m sizeOf39 f Z Z Z (Ak Z As) Z (lb Z) Z λw m=>Ay (Ab f Z λa f=>l_o f (AH (f.e Z)) λa f=>Bu underlying56 Z sizeOf39 f Z λa f=>AG 0 2 m Pl39 f Z Z Z Z λa f=>l_o f (Es (f.e Z) (f.e Z) (by decide)) λa f=>Ah f Z Z CZ λa f=>l_o f (C5 (f.e Z) ⟨_,underlying39⟩ underlying2) λa f=>Ac f Z λa f=>Aa (Ag (Ag (A5 10 AF (by kernel_rfl) m (Aj 0 10 Z f Z λa f=>q_p 1 10 Z f (λ_=>AH (f.e Z)) λa f=> ?_)))))))
 refine BE 2 10 underlying56 Z sizeOf3 Z f Z λa f=>Bf 3 10 0 Pl3 Z Z Z f Z λa f=>Aj 4 10 Z f Z λa f=>q_p 5 10 Z f (λ_=>AH (f.e Z)) λa f=>BE 6 10 underlying56 Z sizeOf22 Z f Z λa f=>Bf 7 10 0 Pl22 Z Z Z f Z λa f=>Eo (i:=8) 10 underlying22 ae Z (by kernel_rfl) Z f Z Z Z λa f=>q_p 9 10 Z f (λ_=>A8 (f.e Z) (f.e Z) AV) λa f=>AO λaf w ag m=>have ae:=rd1 ag ae;Aa ?_
 rcases Af hd with⟨ah,hd⟩|⟨ah,hd⟩
 ·refine Al f Z ah (Ag (A5 14 AF (by kernel_rfl) m (Aj 0 14 Z f Z λa f=>Aj 1 14 Z f Z λa f=>q_p 2 14 Z f (λ_=>AH (f.e Z)) λa f=>BE 3 14 underlying56 Z sizeOf22 Z f Z λa f=>Bf 4 14 0 Pl22 Z Z Z f Z λa f=>Aj 5 14 Z f Z λa f=>q_p 6 14 Z f (λ_=>AH (f.e Z)) λa f=>BE 7 14 underlying56 Z sizeOf3 Z f Z λa f=>Bf 8 14 0 Pl3 Z Z Z f Z λa f=>Bd hd λai aj hd=>Cd 9 14 T22 ae aj Z f Z Z λak al a am an f=> ?_)))
  subst an
  refine B3 10 14 Pl5 am Z f Z λa f=>q_p 11 14 Z f (λ_=>C5 (f.e Z) ⟨_,underlying5⟩ underlying2) λa f=>q_p 12 14 Z f (λ_=>A8 (f.e Z) (f.e Z) Ax) λa f=>q_p 13 14 Z f (λ_=>Cf (f.e Z)) λa f=>AO λao w ap m=>have ae:=rd1 ap ae;Aa (Aq (Ab f Z λa f=>Ab f Z λa f=>l_o f (AH (f.e Z)) λa f=>Bu underlying56 Z sizeOf3 f Z λa f=>AG 0 1 m Pl3 f Z Z Z Z λa f=>Ah f Z Z Ax λa f=>l_o f (AH (f.e Z)) λa f=>Bu underlying56 Z sizeOf3 f Z λa f=>Am 0 1 (ds:=[(iv (i64.wrap (ac+1)))]) m sizeOf3 f Z Z Z (Ak Z As) Z (lb Z) Z λw m=>Ay (Ab f Z λa f=>Ab f Z λa f=> ?_)))
  obtain⟨aq,hd⟩:=CO hd
  refine Ah f Z Z (b_rem aq) λa f=>Ac f Z λa f=>Aa (Ar ?_)
  obtain rfl:=sj hd
  exact⟨[(iv (Int.tmod (i64.wrap ((i64.wrap (iand .u64 (BL .u64 (IntKind.u64.wrap ((IntKind.u64.wrap (ad*6364136223846793005))+1442695040888963407)) 33) 16777215))+(i64.wrap ai))) x1))],f.g Z,f.d,_,[ib b0 56 [aa,(iv (i64.wrap (ac+1))),(.int .u64 (IntKind.u64.wrap ((IntKind.u64.wrap (ad*6364136223846793005))+1442695040888963407)))]],(gt ag ap),m,_,Z,Z,ae⟩
 ·refine Ai f Z ah (Ap (Ae (Ab f Z λa f=>Ab f Z λa f=> ?_)))
  obtain⟨ar,hd⟩:=CO hd
  refine Ah f Z Z (b_rem ar) λa f=>Ac f Z λa f=>Aa (Ar ?_)
  obtain rfl:=sj hd
  exact⟨[(iv (Int.tmod (i64.wrap (iand .u64 (BL .u64 (IntKind.u64.wrap ((IntKind.u64.wrap (ad*6364136223846793005))+1442695040888963407)) 33) 16777215)) x1))],f.g Z,f.d,_,[ib b0 56 [aa,iv ac,(.int .u64 (IntKind.u64.wrap ((IntKind.u64.wrap (ad*6364136223846793005))+1442695040888963407)))]],ag,m,_,Z,Z,ae⟩
theorem Wk.X1 {aa:Value}{ab:LL}{x1:Int}(m:Mem W G w (H))(ac:R2 G aa ab){y:Bool}(hd:D.X1 ab x1=some y):
  Calls prog 47 #[(.agg #[aa]),iv x1] w (Res W G H (λ_ Ho v=>Ho=[]∧v=(.bool y))):=by
 refine Au (args:=[(.agg #[aa]),iv x1]) (N:=15) [.tmp 4] func47 Z Z (lb Z) Z λa f=> ?_
 unfold D.X1 at hd
 refine Ae (Bz (cs:=[aa]) m f Z Z Z λad w a m f=>Ac f Z λa f=>Ay (AA 0 0 (ds:=[aa]) m AJ f Z Z Z Z Z λa f=>Bd hd λae af hd=>Bj f Z call73 (Wk.M0 m ac af) λag w ah m a f=>have ac:=rd2 ah ac;Ab f Z λa f=>Bd hd λai aj hd=> ?_))
 refine BF 7 (λa w=>∃ak,GLe ag ak∧Mem W ak w (ib ad 26 [aa]::H)∧Fr a 15 [(0,(.agg #[aa])),(1,iv x1),(2,pb ad),(5,(.agg #[aa])),(6,(.bool ae)),(7,(.bool ae)),(14,(.bool ai))]) ?_ ?_
 ·rcases Af aj with⟨al,aj⟩|⟨al,aj⟩
  ·refine AB f al (Ab f Z λa f=>AB f al (Bu underlying26 Z sizeOf24 f Z λa f=>AB f al (AG 0 0 m BC f Z Z Z Z λa f=>AB f al (Bg underlying24 f Z Z ac λa f=>AB f al (Ah f Z Z Be λa f=>AB f al (Bd aj λam an aj=>Bj f Z call23 (Wk.A0 m an) λao w ap m a f=>l_o f (AY (f.e Z) al (f.e Z)) λa f=> ?_))))))
   obtain rfl:=sj aj
   exact⟨_,ap,m,f.k Z⟩
  ·refine AC f al λa f=>AC f al λa f=>AC f al λa f=>AC f al λa f=>AC f al λa f=>AC f al λa f=>l_o f (AX (f.e Z) al (f.e Z)) λa f=> ?_
   obtain rfl:=sj aj
   exact⟨_,gr,m,f.k Z⟩
 ·rintro a w ⟨ak,aq,m,f⟩
  refine Ac f Z λa f=>Aa (Ar (have m:=m.dp 1;?_))
  obtain rfl:=sj hd
  exact⟨[(.bool ai)],f.g Z,f.d,_,[],(gt ah aq),m,Z,Z⟩
theorem Wk.A1 {aa:Value}{ab:LL}{x1 x2:Int}(m:Mem W G w (H))(ac:R2 G aa ab){y:Bool}(hd:D.A1 ab x1 x2=some y):
  Calls prog 29 #[(.agg #[aa]),iv x1,iv x2] w (Res W G H (λ_ Ho v=>Ho=[]∧v=(.bool y))):=by
 refine Au (args:=[(.agg #[aa]),iv x1,iv x2]) (N:=19) [.tmp 6] func29 Z Z (lb Z) Z λa f=> ?_
 unfold D.A1 at hd
 refine Ae (Bz (cs:=[aa]) m f Z Z Z λad w a m f=>Ac f Z λa f=>Ay (AA 0 0 (ds:=[aa]) m AJ f Z Z Z Z Z λa f=>Ab f Z λa f=>Bd hd λae af hd=>Bj f Z call47 (Wk.X1 m ac af) λag w ah m a f=>have ac:=rd2 ah ac;Ab f Z λa f=>Bd hd λai aj hd=> ?_))
 refine BF 8 (λa w=>∃ak,GLe ag ak∧Mem W ak w (ib ad 26 [aa]::H)∧Fr a 19 [(0,(.agg #[aa])),(1,iv x1),(2,iv x2),(3,pb ad),(7,(.agg #[aa])),(8,iv x1),(9,(.bool ae)),(10,(.bool ae)),(18,(.bool ai))]) ?_ ?_
 ·rcases Af aj with⟨al,aj⟩|⟨al,aj⟩
  ·refine AB f al (Bu underlying26 Z sizeOf24 f Z λa f=>AB f al (AG 0 0 m BC f Z Z Z Z λa f=>AB f al (Ab f Z λa f=>AB f al (Bd aj λam an aj=>BI T24 f Z Z Z ac an λao ap a aq ar f=>AB f al (A3 m BU f Z Z aq λa f=>AB f al (Ab f Z λa f=>AB f al (Bd aj λau av aj=>Bj f Z call48 (Wk.k0 m ar av) λaw w ax m a f=>l_o f (AY (f.e Z) al (f.e Z)) λa f=> ?_)))))))
   obtain rfl:=sj aj
   exact⟨_,ax,m,f.k Z⟩
  ·refine AC f al λa f=>AC f al λa f=>AC f al λa f=>AC f al λa f=>AC f al λa f=>AC f al λa f=>AC f al λa f=>l_o f (AX (f.e Z) al (f.e Z)) λa f=> ?_
   obtain rfl:=sj aj
   exact⟨_,gr,m,f.k Z⟩
 ·rintro a w ⟨ak,ay,m,f⟩
  refine Ac f Z λa f=>Aa (Ar (have m:=m.dp 1;?_))
  obtain rfl:=sj hd
  exact⟨[(.bool ai)],f.g Z,f.d,_,[],(gt ah ay),m,Z,Z⟩
theorem Wk.z1 {v0:Value}{it0:Itm}{x0:LI}{x1 x2:Int}(m:Mem W G w (it0::H))(o0:Ow (RI .u32) 60 G it0 v0 x0){y:(LI)}(hd:D.z1 x0 x1 x2=some y):
  Calls prog 31 #[v0,iv x1,iv x2] w (Res W G H (λG' Ho _=>∃i0:Itm,Ho=[i0]∧Ow (RI .u32) 60 G' i0 v0 y)):=by
 refine Au (args:=[v0,iv x1,iv x2]) (N:=22) [] func31 Z Z (lb Z) Z λa f=> ?_
 unfold D.z1 at hd
 refine Ag (A5 8 AF (by kernel_rfl) m (Aj 0 8 Z f Z λa f=>Aj 1 8 Z f Z λa f=>Bd hd λaa ab hd=>A4 2 8 0 m o0 T51 ab Z f Z Z λac a ad f=>Bk 3 8 0 o0 DB ad ab Z f Z λae a af f=> ?_))
 subst af
 refine Aj 4 8 Z f Z λa f=>Bd hd λag ah hd=>BH (i:=5) 8 Z (by kernel_rfl) Z f Z Z Z call45 (λ_ _ w ai m=>Wk.e m ah) λa f=>q_p 6 8 Z f (λ_=>A8 (f.e Z) (f.e Z) DZ) λa f=>Bd hd λaj ak hd=>A4 7 8 0 m o0 T51 ak Z f Z Z λal a am f=>AO λan w ao m=>have o0:=od1 ao o0;AR 0 m o0 Z sizeOf60 f Z Z am ak Z Z Z λap w m aq=>Aa (A5 8 AF (by kernel_rfl) m (Aj 0 8 Z f Z λa f=>Aj 1 8 Z f Z λa f=>Bd hd λar au hd=>A4 2 8 0 m aq T51 au Z f Z Z λav a aw f=>Bk 3 8 0 aq DB aw au Z f Z λax a ay f=> ?_))
 subst ay
 refine Aj 4 8 Z f Z λa f=>Bd hd λaz aA hd=>BH (i:=5) 8 Z (by kernel_rfl) Z f Z Z Z call45 (λ_ _ w aB m=>Wk.e m aA) λa f=>q_p 6 8 Z f (λ_=>A8 (f.e Z) (f.e Z) DZ) λa f=>Bd hd λaC aD hd=>A4 7 8 0 m aq T51 aD Z f Z Z λaE a aF f=>AO λaG w aH m=>have aq:=od1 aH aq;AR 0 m aq Z sizeOf60 f Z Z aF aD Z Z Z λaI w m aJ=>Aa ?_
 obtain rfl:=sj hd
 exact⟨[],trivial,f.d,_,[aI],(gt ao aH),m,_,Z,aJ⟩
theorem Wk.U0 {aa:Value}{ab:LL}{x1 x2:Int}(hW:Cs W)(m:Mem W G w (H))(ac:R2 G aa ab){y:(LL)×Bool}(hd:D.U0 ab x1 x2=some y):
  Calls prog 13 #[(.agg #[aa]),iv x1,iv x2] w (Res W G H (λG' Ho v=>∃r0:Value,∃i0:Itm,Ho=[i0]∧v= .tuple #[(.agg #[r0]),(.bool y.2)]∧Ow R1 30 G' i0 r0 y.1)):=by
 refine Au (args:=[(.agg #[aa]),iv x1,iv x2]) (N:=43) [.cell 6 26,.tmp 7] func13 Z Z (lb Z) Z λa f=> ?_
 unfold D.U0 at hd
 refine Ae (Bz (cs:=[aa]) m f Z Z Z λad w a m f=>AP (cs:=[sn]) zeroValue26 m f Z Z λae w a m f=>Ac f Z λa f=>Aa (Ag (Ae (AA 1 0 (ds:=[aa]) m AJ f Z Z Z Z Z λa f=>Ab f Z λa f=>Ab f Z λa f=>Bd hd λaf ag hd=>Bj f Z call29 (Wk.A1 m ac ag) λah w ai m a f=>have ac:=rd2 ai ac;l_o f (BN (f.e Z)) λa f=>Ab f Z λa f=> ?_))))
 refine BF 5 (λa w=>∃aj,GLe ah aj∧Mem W aj w (ib ae 26 [sn]::ib ad 26 [aa]::H)∧Fr a 43 [(0,(.agg #[aa])),(1,iv x1),(2,iv x2),(3,pb ad),(6,pb ae),(10,(.agg #[aa])),(11,iv x1),(12,iv x2),(13,(.bool af)),(14,(.bool (!af))),(15,(.bool (!af))),(20,(.bool ((!af)||((ab.length:Int)==16))))]) ?_ ?_
 ·rcases Bool.eq_false_or_eq_true (!af) with ak|ak
  ·exact AC f ak λa f=>AC f ak λa f=>AC f ak λa f=>AC f ak λa f=>l_o f (AY (f.e Z) ak (f.e Z)) λa f=>⟨_,gr,m,f.weak ⟨Z,Z,Z,Z,Z,Z,Z,Z,Z,Z,Z,by rw[ak];rfl,trivial⟩⟩
  ·exact AB f ak (Bu underlying26 Z sizeOf24 f Z λa f=>AB f ak (AG 1 0 m BC f Z Z Z Z λa f=>AB f ak (Bg underlying24 f Z Z ac λa f=>AB f ak (Ah f Z Z BA λa f=>l_o f (AX (f.e Z) ak (f.e Z)) λa f=>⟨_,gr,m,f.weak ⟨Z,Z,Z,Z,Z,Z,Z,Z,Z,Z,Z,by rw[ak];rfl,trivial⟩⟩))))
 ·rintro a w ⟨aj,al,m,f⟩
  refine have ac:=rd2 al ac;Aa ?_
  rcases Af hd with⟨am,hd⟩|⟨am,hd⟩
  ·refine Al f Z am (Ae ?_)
   have an:∀w,(Instr.build 26 #[]).run prog w= .ok (.agg #[sn]) w:=by intro w;simp[Instr.build,Instr.fill,Bb,A6,AT,A2,AQ,Bc,A7]
   refine Bv f Z Z an λa f=>Am 0 0 (ds:=[sn]) m sizeOf26 f Z Z Z (Ak Z As) Z (lb Z) Z λw m=>Ac f Z λa f=>Aa (Ar ?_)
   obtain⟨ao,m,ap⟩:=Ow.nil R1 30 m
   refine have aq:=Bi (P:=prog) 1 m AJ f (s:=6) rfl rfl rfl;have m:=m.eraseAt 2;have m:=m.eraseAt 1;?_
   obtain rfl:=sj hd
   exact⟨[(.agg #[sn]),(.bool false)],⟨aq,f.get _ _ Z,trivial⟩,f.d,_,[ao],(gt ai al),m,_,_,Z,Z,ap⟩
  ·refine Ai f Z am (Ap (Ag (Bd hd λar au hd=> ?_)))
   refine AL (λa w=>∃av:LI,∃aw:Int,(av,aw)=ar∧∃(ax:GH) (ay:Value) (az:Itm),GLe aj ax∧Fr a 43 [(1,iv x1),(2,iv x2),(6,pb ae),(8,ay),(9,iv aw)]∧Mem W ax w (ib ae 26 [sn]::az::H)∧Ow (RI .u32) 60 ax az ay av) ?_ ?_
   ·refine A5 8 AF (by kernel_rfl) m (Cg (i:=0) (ds:=[aa]) 8 1 AJ Z Z Z Z (by kernel_rfl) Z f Z Z Z λa f=>BE 4 8 underlying26 Z sizeOf24 Z f Z λa f=>Bf 5 8 1 BC Z Z Z f Z λa f=>Eo (i:=6) 8 underlying24 ac Z (by kernel_rfl) Z f Z Z Z λa f=>CD (i:=1) (j:=2) (l1:= #[true,true,false,false,true,true,true,false,false]) (l2:= #[true,false,true,false,true,true,true,false,false]) Z Z (by kernel_rfl) Z Z ?_ ?_)
    ·intro aA w aB m aC aC
     refine have ac:=rd2 aB ac;Bd au λaD aE au=>BP f Z call30 (Wk.J m ac aE) λaF aG aH w aI m aJ a f=>Aa (aC aH [aG] _ _ aI m (Bh 2 Z λaK w aL m aM aM=>have aJ:=od1 aL aJ;A9 (R:=(RI .u32)) (xs:=([0]:LI)) (RI.one _) m T51 f Z Z Z (by decide) (All2.cons Z (All2.nil _)) λaN aO w a m aP f=>Aa (aM aK [aN,aG] _ _ gr m (Bh 3 Z λaQ w aR m aS aS=>have aP:=od1 aR aP;have aJ:=od1 aR aJ;Bd au λaT aU au=>Bm (RI.one _) 1 m aJ Z T51 Z (by decide) f Z Z Z (Ow.src (j:=0) aP m Z) aU λaV aW w a m aX f=>Aa (aS aQ [aN,aV] _ _ gr m (q_p 7 8 Z f (λ_=>Cf (f.e Z)) λa f=>AO λaY w aZ m=>have aX:=od1 aZ aX;Ac f Z λa f=>Aa (have m:=m.fr 1;have m:=m.fr 2;have m:=m.eraseAt 3;have m:=m.eraseAt 2;?_)))))))
     obtain rfl:=sj au
     exact⟨_,_,Z,_,aW,aV,(gt aB (gt aI (gt aL (gt aR aZ)))),f.k Z,m,aX⟩
    ·intro aK w aL m aM aM
     refine Bd au λaD aE au=>Bd au λaT aU au=>have ac:=rd2 aL ac;A9 (R:=(RI .u32)) (xs:=([0]:LI)) (RI.one _) m T51 f Z Z Z (by decide) (All2.cons Z (All2.nil _)) λaN aO w a m aP f=>Aa (aM aK [aN] _ _ gr m (Bh 1 Z λaA w aB m aC aC=>have ac:=rd2 aB ac;have aP:=od1 aB aP;BP f Z call30 (Wk.J m ac aE) λaF aG aH w aI m aJ a f=>have aP:=od1 aI aP;Aa (aC aH [aG,aN] _ _ aI m (Bh 3 Z λaQ w aR m aS aS=>have aJ:=od1 aR aJ;have aP:=od1 aR aP;Bm (RI.one _) 0 m aJ Z T51 Z (by decide) f Z Z Z (Ow.src (j:=1) aP m Z) aU λaV aW w a m aX f=>Aa (aS aQ [aV,aN] _ _ gr m (q_p 7 8 Z f (λ_=>Cf (f.e Z)) λa f=>AO λaY w aZ m=>have aX:=od1 aZ aX;Ac f Z λa f=>Aa (have m:=m.fr 2;have m:=m.eraseAt 3;have m:=m.eraseAt 2;?_)))))))
     obtain rfl:=sj au
     exact⟨_,_,Z,_,aW,aV,(gt aL (gt aB (gt aI (gt aR aZ)))),f.k Z,m,aX⟩
   ·rintro a w ⟨av,aw,rfl,ax,ay,az,a0,f,m,a1⟩
    refine Ae (Ab f Z λa f=>Ab f Z λa f=>Ab f Z λa f=>have m:=m.fr 1;Bd hd λa2 a3 hd=>AI f Z call31 (Wk.z1 m a1 a3) λa4 a5 a6 w a7 m a8 a f=> ?_)
    obtain⟨a9,rfl,ba⟩:=a8
    refine Ay (Ab f Z λa f=>Ab f Z λa f=>Ab f Z λa f=>Bd hd λbb bc hd=>AI f Z call24 (Wk.F m ba bc) λbd be bf w bg m bh a f=> ?_)
    obtain⟨bi,rfl,bj⟩:=bh
    refine Ay (Ab f Z λa f=>Ab f Z λa f=>Ab f Z λa f=>Bd hd λbk bl hd=>AI f Z call24 (Wk.F m bj bl) λbm bn bo w bp m bq a f=> ?_)
    obtain⟨br,rfl,bs⟩:=bq
    refine Ay (Ab f Z λa f=> ?_)
    obtain⟨bt,bu,m,bv⟩:=Ow.stamp (RI.mono _) bs m
    refine Bd hd λbw bx hd=>AI f Z call26 (Wk.g0 hW m bv bx) λbz bA bB w bC m bD a f=> ?_
    obtain⟨bE,bF,rfl,rfl,bG⟩:=bD
    refine Am 1 0 (ds:=[bE]) m sizeOf26 f Z Z Z (Ak (Ow.one1 0 m bG Z) As) Z (lb Z) Z λw m=>Ac f Z λa f=>Aa (Ar (have bH:=Bi (P:=prog) 1 m AJ f (s:=6) rfl rfl rfl;have m:=m.eraseAt 1;?_))
    obtain rfl:=sj hd
    exact⟨[(.agg #[bE]),(.bool true)],⟨bH,f.get _ _ Z,trivial⟩,f.d,_,[bF],(gt ai (gt al (gt a0 (gt a7 (gt bg (gt bp (gt bu bC))))))),m,_,_,Z,Z,bG⟩
theorem Wk.g1 {v0:Value}{x0:LL}(m:Mem W G w (H))(h0:R2 G v0 x0){y:(LL)}(hd:D.g1 x0=some y):
  Calls prog 52 #[v0] w (Res W G H (λG' Ho v=>∃r0:Value,∃i0:Itm,Ho=[i0]∧v=(.agg #[r0])∧Ow2 R0 30 2 G' i0 r0 y)):=by
 refine Au (args:=[v0]) (N:=40) [.cell 2 62] func52 Z Z (lb Z) Z λa f=> ?_
 unfold D.g1 at hd
 refine Ae (AP (cs:=[sn]) zeroValue62 m f Z Z λaa w a m f=>Ay ?_)
 have ab:∀w,(Instr.build 62 #[]).run prog w= .ok (.agg #[sn]) w:=by intro w;simp[Instr.build,Instr.fill,Bb,A6,AT,A2,AQ,Bc,A7]
 refine Bv f Z Z ab λa f=>AP (cs:=[sn]) zeroValue62 m f Z Z λac w a m f=>Am 0 0 (ds:=[sn]) m sizeOf62 f Z Z Z (Ak Z As) Z (lb Z) Z λw m=>Aa (Ag (Ae (Ab f Z λa f=>Bg underlying80 f Z Z h0 λa f=>Ab f Z λa f=>Aa ?_)))
 obtain⟨ad,m,ae⟩:=Ow2.nil R0 30 2 m
 have⟨af,ag,hd⟩:=bind_some hd
 refine AL (λa w=>∃ah:LL,ah=af∧∃(ai:GH) (aj:Value) (ak:Itm),GLe G ai∧Fr a 40 [(2,pb aa),(3,pb ac)]∧Mem W ai w (ib aa 62 [sn]::ib ac 62 [aj]::ak::H)∧Ow2 R0 30 2 ai ak aj ah) ?_ ?_
 ·refine Ao (have m:=m.fr 1;have m:=m.fr 2;AM (λal a w=>∃am:Int,∃an:LL,(am,an)=al∧∃(ao:GH) (ap:Value) (aq:Itm),GLe G ao∧Fr a 40 [(2,pb aa),(3,pb ac),(9,v0),(10,(iv (x0.length:Int))),(11,iv am)]∧Mem W ao w (ib aa 62 [sn]::ib ac 62 [ap]::aq::H)∧Ow2 R0 30 2 ao aq ap an) ag ⟨_,_,Z,_,sn,ad,gr,f.k Z,m,ae⟩ ?_)
  clear ag f m
  rintro al ar au av a w ⟨am,an,rfl,ao,ap,aq,aw,f,m,ax⟩
  refine have h0:=rd2 aw h0;Ae (Ah f Z Z AV λa f=>Aa (Ag ?_))
  rcases Af au with⟨ay,au⟩|⟨ay,au⟩
  ·refine Al f Z ay (Ap (Ag (Ao (Ae (Bd au λaz aA au=>BI T80 f Z Z Z h0 aA λaB aC a aD aE f=>A3 m Ds f Z Z aD λa f=>Ac f Z λa f=>Ay (Ab f Z λa f=>Bd au λaF aG au=>BP f Z call84 (Wk.u m aE aG) λaH aI aJ w aK m aL a f=>have ax:=od2 aK ax;Ac f Z λa f=>Aa (Ag (Ae (Ab f Z λa f=>BJ 0 m aL Z underlying30 f Z Z λa f=>Ah f Z Z Ci λa f=>Aa ?_)))))))))
   rcases Af au with⟨aM,au⟩|⟨aM,au⟩
   ·refine Al f Z aM (Ae (Ab f Z λa f=>Ab f Z λa f=>Bd au λaN aO au=>AI f Z call88 (Ow.lendCall (RI.mono _) 0 aL m Z (λaP aQ m aR=>Wk.G1 m aR aO) (λ_ _ _ _ h=>h)) λaS aT aU w aV m aW a f=> ?_))
    obtain⟨rfl,rfl⟩:=aW
    refine have aL:=od1 aV aL;have ax:=od2 aV ax;Bd au λaX aY au=>AI f Z call85 (Ow.lendCall (RI.mono _) 0 aL m Z (λaZ a2 m a3=>Wk.s0 m a3 aY) (λ_ _ _ _ h=>h)) λa4 a5 a6 w a7 m a8 a f=> ?_
    obtain⟨rfl,rfl⟩:=a8
    refine have aL:=od1 a7 aL;have ax:=od2 a7 ax;Ac f Z λa f=>Aa (Bd au λa9 ba au=> ?_)
    refine AL (λa w=>∃bb:LI,bb=a9∧∃(bc:GH) (bd:Value) (be:Itm),GLe a5 bc∧Fr a 40 [(2,pb aa),(3,pb ac),(6,bd),(9,v0),(10,(iv (x0.length:Int))),(11,iv am)]∧Mem W bc w (ib aa 62 [sn]::ib ac 62 [ap]::be::aq::H)∧Ow R0 2 bc be bd bb) ?_ ?_
    ·obtain⟨bf,bg,m,bh⟩:=Ow.stamp (RI.mono _) aL m
     refine A5 9 AF (by kernel_rfl) m (Aj 0 9 Z f Z λa f=>Aj 1 9 Z f Z λa f=>Bd ba λbi bj ba=>Fh (i:=2) 9 T30 bh bj Z (by kernel_rfl) Z f Z Z Z (.inr ⟨_,_,Z,Z⟩) (.inl ⟨Z,Z⟩) λbk a bl f=>Aj 3 9 Z f Z λa f=>Aj 4 9 Z f Z λa f=>Bd ba λbm bn ba=>Fh (i:=5) 9 T30 bh bn Z (by kernel_rfl) Z f Z Z Z (.inl ⟨Z,Z⟩) (.inr ⟨_,_,Z,Z⟩) λbo a bp f=>Bh 6 Z λbq w br m bs bs=>have bl:=rd1 br bl;have bp:=rd1 br bp;A9 (R:=R1) (xs:=([bi,bm]:LL)) (RSl.one _) m T24 f Z Z Z (by decide) (All2.cons bl (All2.cons bp (All2.nil _))) λbt bu w a m bv f=>Aa (bs bq [bt] _ _ gr m (Bh 7 Z λbw w bx m bz bz=>have bv:=od3 bx bv;Bd ba λbA bB ba=>BP f Z call89 (Ow.lendCall (RSl.mono (RI.mono _)) 0 bv m Z (λbC bD m bE=>Wk.M1 m bE bB) (λ_ G' _ _ ⟨a0,a1,e1,e2,o0⟩=>⟨a0,a1,e1,e2,Ow.free (RI.free _) G' o0⟩)) λbF bG bH w bI m bJ a f=>Aa (bz bH [bG,bt] _ _ bI m ?_))))
     refine q_p 8 9 Z f (λ_=>Cf (f.e Z)) λa f=>AO λbK w bL m=>have bJ:=od1 bL bJ;Aa (have m:=m.fr 4;have m:=m.fr 1;have m:=m.fr 4;have m:Mem W bK w (ib aa 62 [sn]::ib ac 62 [ap]::bG::aq::bt::H):=m.fr 4;have m:=m.eraseAt 4;?_)
     obtain rfl:=sj ba
     exact⟨_,Z,_,bF,bG,(gt bg (gt br (gt bx (gt bI bL)))),f.k Z,m,bJ⟩
    ·rintro a w ⟨bb,rfl,bc,bd,be,bM,f,m,bN⟩
     refine have ax:=od2 bM ax;Aq (Bu underlying62 Z sizeOf24 f Z λa f=>AG 1 0 m BC f Z Z Z Z λa f=>Ab f Z λa f=>A9 (R:=RawS) (xs:=[bd]) RawS.one m T24 f Z Z Z (by decide) (All2.cons ⟨Z,Ow.one1 2 m bN Z,Ow.cells 2 m bN Z⟩ (All2.nil _)) λbO bP w a m bQ f=>have m:=m.fr 3;have m:=m.fr 4;Bd au λbR bS au=>EU m ax bN bQ T24 Z (by decide) f Z Z Z bS λbT bU w a m bV f=>Bu underlying62 Z sizeOf24 f Z λa f=>Am 2 0 (ds:=[bU]) m sizeOf24 f Z Z (Ow2.cells 0 m bV Z) (Ak (Ow2.one1 0 m bV Z) As) Z (lb Z) Z λw m=>Aa (Aq (Ah f Z Z Ax λa f=>Ab f Z λa f=>Aa (have m:=m.fr 2;have m:=m.fr 2;?_))))
     obtain rfl:=sj au
     exact⟨_,Z,_,_,Z,_,bU,bT,(gt aw (gt aK (gt aV (gt a7 bM)))),f.k Z,m,bV⟩
   ·refine Ai f Z aM (Ap (Aq (Bu underlying62 Z sizeOf24 f Z λa f=>AG 2 0 m BC f Z Z Z Z λa f=>Ab f Z λa f=>A9 (R:=RawS) (xs:=[aH]) RawS.one m T24 f Z Z Z (by decide) (All2.cons ⟨Z,Ow.one1 0 m aL Z,Ow.cells 0 m aL Z⟩ (All2.nil _)) λbW bX w a m bY f=>have m:=m.fr 1;have m:=m.fr 4;Bd au λbZ b0 au=>EU m ax aL bY T24 Z (by decide) f Z Z Z b0 λb1 b2 w a m b3 f=>Bu underlying62 Z sizeOf24 f Z λa f=>Am 2 0 (ds:=[b2]) m sizeOf24 f Z Z (Ow2.cells 0 m b3 Z) (Ak (Ow2.one1 0 m b3 Z) As) Z (lb Z) Z λw m=>Aa (Aq (Ah f Z Z Ax λa f=>Ab f Z λa f=>Aa (have m:=m.fr 2;have m:=m.fr 2;?_))))))
    obtain rfl:=sj au
    exact⟨_,Z,_,_,Z,_,b2,b1,(gt aw aK),f.k Z,m,b3⟩
  ·refine Ai f Z ay (AK Z ?_)
   obtain rfl:=sj au
   obtain rfl:=av _ rfl
   exact⟨_,Z,_,ap,aq,aw,f.k Z,m,ax⟩
 ·rintro a w ⟨ah,rfl,ai,aj,ak,b4,f,m,b5⟩
  refine Ae (AA 1 0 (ds:=[aj]) m Ag62 f Z Z Z Z Z λa f=>Am 0 0 (ds:=[aj]) m sizeOf62 f Z Z Z (Ak (Ow2.one1 2 m b5 Z) As) Z (lb Z) Z λw m=>Aa (Ar (have b6:=Bi (P:=prog) 0 m Ag62 f (s:=2) rfl rfl rfl;have m:=m.fr 2;have m:=m.eraseAt 2;have m:=m.eraseAt 1;?_)))
  obtain rfl:=sj hd
  exact⟨[(.agg #[aj])],⟨b6,trivial⟩,f.d,_,[ak],b4,m,_,_,Z,Z,b5⟩
theorem Wk.X0 {v0:Value}{x0:LI}(hW:Cs W)(m:Mem W G w (H))(h0:RSl (RI .u32) G v0 x0){y:((List (Int×Int)))}(hd:D.X0 x0=some y):
  Calls prog 86 #[v0] w (Res W G H (λG' Ho v=>∃r0:Value,∃i0:Itm,Ho=[i0]∧r0=v∧OwR P2 122 G' i0 r0 y)):=by
 refine Au (args:=[v0]) (N:=64) [.tmp 2] func86 Z Z (lb Z) Z λa f=> ?_
 unfold D.X0 at hd
 refine Ae (Ac f Z λa f=>Ay (l_slitR0 (E:=P2) m T98 f Z λaa ab w a m ac f=>Ac f Z λa f=>Ac f Z λa f=>Aa (Ag (Bd hd λad ae hd=> ?_))))
 refine AL (λa w=>∃af:List (Int×Int),af=ad∧∃(ag:GH) (ah:Value) (ai:Itm),GLe G ag∧Fr a 64 [(3,ah)]∧Mem W ag w (ai::H)∧OwR P2 122 ag ai ah af) ?_ ?_
 ·refine Ao (AM (λaj a w=>∃ak:List (Int×Int),∃al:Int,(ak,al)=aj∧∃(am:GH) (an:Value) (ao:Itm),GLe G am∧Fr a 64 [(0,v0),(3,an),(4,(.int .u32 al))]∧Mem W am w (ao::H)∧OwR P2 122 am ao an ak) ae ⟨_,_,Z,_,ab,aa,gr,f.k Z,m,ac⟩ ?_)
  clear ae f m
  rintro aj ap aq ar a w ⟨ak,al,rfl,am,an,ao,au,f,m,av⟩
  refine have h0:=rd1 au h0;Ag (Ae (Ab f Z λa f=>Ab f Z λa f=>Bd aq λaw ax aq=>Bj f Z call83 (Wk.o0 m h0 ax) λay w az m a f=>have h0:=rd1 az h0;have av:=OwR.mono trivial az av;Ah f Z Z Dc λa f=>Aa ?_))
  rcases Af aq with⟨aA,aq⟩|⟨aA,aq⟩
  ·refine Al f Z aA (Ap (Ao (Ae (Ac f Z λa f=>Ac f Z λa f=>Aa (Ag (Ae (Ab f Z λa f=>Bd aq λaB aC aq=>Bj f Z call83 (Wk.o0 m h0 aC) λaD w aE m a f=>have h0:=rd1 aE h0;have av:=OwR.mono trivial aE av;Ab f Z λa f=>Ah f Z Z DZ λa f=>Bd aq λaF aG aq=>BP f Z call80 (Wk.r hW m aG) λaH aI aJ w aK m aL a f=>have h0:=rd1 aK h0;have av:=OwR.mono trivial aK av;BJ 0 m aL Z underlying87 f Z Z λa f=>Ab f Z λa f=>Aa (Bd aq λaM aN aq=> ?_))))))))
   refine AL (λa w=>∃aO:Int,aO=aM∧∃(aP:GH),GLe aJ aP∧Fr a 64 [(0,v0),(3,an),(4,(.int .u32 al)),(5,iv aO)]∧Mem W aP w (ao::H)) ?_ ?_
   ·refine Ao (have m:=m.fr 1;AM (λaQ a w=>∃aR:Int,∃aS:Int,∃aT:Int,(aR,aS,aT)=aQ∧∃(aU:GH),GLe aJ aU∧Fr a 64 [(0,v0),(3,an),(4,(.int .u32 al)),(5,iv aR),(6,iv aS),(21,aH),(22,(iv (aF.length:Int))),(23,iv aT)]∧Mem W aU w (ao::aI::H)) aN ⟨_,_,_,Z,_,gr,f.k Z,m⟩ ?_)
    clear aN f m
    rintro aQ aV aW aX a w ⟨aR,aS,aT,rfl,aU,aY,f,m⟩
    refine have h0:=rd1 aY h0;have aL:=od1 aY aL;Ae (Ah f Z Z AV λa f=>Aa (Ag ?_))
    rcases Af aW with⟨aZ,aW⟩|⟨aZ,aW⟩
    ·refine Al f Z aZ (Ap (Ag (Ao (Ae (Bd aW λa0 a1 aW=>Bq 1 m aL Z T87 f Z Z Z a1 λa2 a a3 f=>BW 1 m aL Z Pl3 f Z Z a3 a1 λa4 a a5 f=> ?_)))))
     subst a5
     refine Ac f Z λa f=>Ay (Ab f Z λa f=>Ab f Z λa f=>Bd aW λa6 a7 aW=>BI T51 f Z Z Z h0 a7 λa8 a9 a ba bb f=> ?_)
     subst bb
     refine A3 m DB f Z Z ba λa f=>Ab f Z λa f=>Ah f Z Z CZ λa f=>Bd aW λbc bd aW=>Bj f Z call81 (Wk.C m bd) λbe w bf m a f=>Ac f Z λa f=>Ay (Ab f Z λa f=>Ab f Z λa f=>Ah f Z Z Ci λa f=>Aa ?_)
     rcases Af aW with⟨bg,aW⟩|⟨bg,aW⟩
     ·refine Al f Z bg (Aq (Ab f Z λa f=>Ab f Z λa f=>Ac f Z λa f=>Ac f Z λa f=>Aa (Aq (Ah f Z Z Ax λa f=>Ab f Z λa f=>Aa ?_))))
      obtain rfl:=sj aW
      exact⟨_,Z,_,_,_,Z,_,(gt aY bf),f.k Z,m⟩
     ·refine Ai f Z bg (Ap (Aq (Ah f Z Z Ax λa f=>Ab f Z λa f=>Aa ?_)))
      obtain rfl:=sj aW
      exact⟨_,Z,_,_,_,Z,_,(gt aY bf),f.k Z,m⟩
    ·refine Ai f Z aZ (AK Z (have m:=m.eraseAt 1;?_))
     obtain rfl:=sj aW
     obtain rfl:=aX _ rfl
     exact⟨_,Z,_,aY,f.k Z,m⟩
   ·rintro a w ⟨aO,rfl,aP,bh,f,m⟩
    refine have h0:=rd1 bh h0;have av:=OwR.mono trivial bh av;Ag (Ae (Ab f Z λa f=>Ab f Z λa f=>Bd aq λbi bj aq=>BI T51 f Z Z Z h0 bj λbk bl a bm bn f=> ?_))
    subst bn
    refine A3 m DB f Z Z bm λa f=>Ab f Z λa f=>Ah f Z Z CZ λa f=>Bd aq λbo bp aq=>BP f Z call80 (Wk.r hW m bp) λbq br bs w bt m bu a f=>have av:=OwR.mono trivial bt av;BJ 0 m bu Z underlying87 f Z Z λa f=>Ab f Z λa f=>Aa (Bd aq λbv bw aq=> ?_)
    refine AL (λa w=>∃bx:List (Int×Int),bx=bv∧∃(bz:GH) (bA:Value) (bB:Itm),GLe bs bz∧Fr a 64 [(0,v0),(3,bA),(4,(.int .u32 al)),(5,iv aO)]∧Mem W bz w (bB::H)∧OwR P2 122 bz bB bA bx) ?_ ?_
    ·refine Ao (have m:=m.fr 1;AM (λbC a w=>∃bD:List (Int×Int),∃bE:Int,(bD,bE)=bC∧∃(bF:GH) (bG:Value) (bH:Itm),GLe bs bF∧Fr a 64 [(0,v0),(3,bG),(4,(.int .u32 al)),(5,iv aO),(46,bq),(47,(iv (bo.length:Int))),(48,iv bE)]∧Mem W bF w (bH::br::H)∧OwR P2 122 bF bH bG bD) bw ⟨_,_,Z,_,an,ao,gr,f.k Z,m,av⟩ ?_)
     clear bw f m
     rintro bC bI bJ bK a w ⟨bD,bE,rfl,bF,bG,bH,bL,f,m,bM⟩
     refine have bu:=od1 bL bu;Ae (Ah f Z Z AV λa f=>Aa (Ag ?_))
     rcases Af bJ with⟨bN,bJ⟩|⟨bN,bJ⟩
     ·refine Al f Z bN (Ap (Ag (Ao (Ae (Bd bJ λbO bP bJ=>Bq 1 m bu Z T87 f Z Z Z bP λbQ a bR f=>BW 1 m bu Z Pl3 f Z Z bR bP λbS a bT f=> ?_)))))
      subst bT
      refine Ac f Z λa f=>Aa (Aq (Ab f Z λa f=>Ab f Z λa f=>Ab f Z λa f=> ?_))
      have bU:∀w,(Instr.build 122 #[(0,iv bO),(1,iv aO)]).run prog w= .ok (.agg #[iv bO,iv aO]) w:=by intro w;simp[Instr.build,Instr.fill,Bb,A6,AT,A2,AQ,Bc,A7]
      refine Bv f Z Z bU λa f=>l_slitR (E:=P2) (y:=(bO,aO)) (cs:=[iv bO,iv aO]) m T98 f Z Z Z (lb Z) λbV bW w a m bX f=>Bd bJ λbY bZ bJ=>FV (E:=P2) (z:= .agg #[iv 0,iv 0]) 1 0 m bM Z bX Z (by simp) T98 Z (by decide) f Z Z Z bZ λb0 b1 w a m b2 f=>Ac f Z λa f=>Aa (Aq (Ah f Z Z Ax λa f=>Ab f Z λa f=>Aa (have m:=m.fr 2;have m:=m.fr 2;have m:=m.eraseAt 2;?_)))
      obtain rfl:=sj bJ
      exact⟨_,Z,_,_,Z,_,b1,b0,bL,f.k Z,m,b2⟩
     ·refine Ai f Z bN (AK Z (have m:=m.eraseAt 1;?_))
      obtain rfl:=sj bJ
      obtain rfl:=bK _ rfl
      exact⟨_,Z,_,bG,bH,bL,f.k Z,m,bM⟩
    ·rintro a w ⟨bx,rfl,bz,bA,bB,b3,f,m,b4⟩
     refine Aq (Ab f Z λa f=>Ab f Z λa f=>Bd aq λb5 b6 aq=>Bj f Z call45 (Wk.e m b6) λb7 w b8 m a f=>have b4:=OwR.mono trivial b8 b4;Ah f Z Z b_or λa f=>Ac f Z λa f=>Aa ?_)
     obtain rfl:=sj aq
     exact⟨_,Z,_,_,Z,_,bA,bB,(gt au (gt az (gt aE (gt aK (gt bh (gt bt (gt b3 b8))))))),f.k Z,m,b4⟩
  ·refine Ai f Z aA (AK Z ?_)
   obtain rfl:=sj aq
   obtain rfl:=ar _ rfl
   exact⟨_,Z,_,an,ao,(gt au az),f.k Z,m,av⟩
 ·rintro a w ⟨af,rfl,ag,ah,ai,b9,f,m,ca⟩
  refine Ae (Ab f Z λa f=>Ac f Z λa f=>Aa (Ar ?_))
  obtain rfl:=sj hd
  exact⟨[ah],f.g Z,f.d,_,[ai],b9,m,_,_,Z,Z,ca⟩
theorem Wk.b1 {v0:Value}{x0:LL}{x1 x2:Int}(m:Mem W G w (H))(h0:R2 G v0 x0){y:Int}(hd:D.b1 x0 x1 x2=some y):
  Calls prog 113 #[v0,iv x1,iv x2] w (Res W G H (λ_ Ho v=>Ho=[]∧v=(iv y))):=by
 refine Au (args:=[v0,iv x1,iv x2]) (N:=28) [.tmp 6] func113 Z Z (lb Z) Z λa f=> ?_
 unfold D.b1 at hd
 refine Ae (Ac f Z λa f=>Ay (Ab f Z λa f=>Ab f Z λa f=>Bd hd λaa ab hd=>BI T80 f Z Z Z h0 ab λac ad a ae af f=>A3 m Ds f Z Z ae λa f=>Ab f Z λa f=>Bd hd λag ah hd=>Bj f Z call118 (Wk.n1 m af ah) λai w aj m a f=>have h0:=rd2 aj h0;Ac f Z λa f=>Aa (Ag (A5 15 AF (by kernel_rfl) m (Aj 0 15 Z f Z λa f=>Aj 1 15 Z f Z λa f=>Bd hd λak al hd=>Cd 2 15 T80 h0 al Z f Z Z λam an a ao ap f=>B3 3 15 Ds ao Z f Z λa f=>Aj 4 15 Z f Z λa f=>q_p 5 15 Z f (λ_=>A8 (f.e Z) (f.e Z) Ax) λa f=>Aj 6 15 Z f Z λa f=>Aj 7 15 Z f Z λa f=>Bd hd λaq ar hd=>Cd 8 15 T80 h0 ar Z f Z Z λau av a aw ax f=>B3 9 15 Ds aw Z f Z λa f=>Eo (i:=10) 15 underlying87 ax Z (by kernel_rfl) Z f Z Z Z λa f=> ?_)))))
 obtain⟨ay,hd⟩:=CO hd
 refine q_p 11 15 Z f (λ_=>A8 (f.e Z) (f.e Z) (b_rem ay)) λa f=>Bd hd λaz aA hd=>Cd 12 15 T87 ap aA Z f Z Z λaB aC a aD aE f=> ?_
 subst aE
 refine B3 13 15 Pl3 aD Z f Z λa f=>q_p 14 15 Z f (λ_=>Cf (f.e Z)) λa f=>AO λaF w aG m=>Aa (Ar ?_)
 obtain rfl:=sj hd
 exact⟨[iv az],f.g Z,f.d,_,[],(gt aj aG),m,Z,Z⟩
theorem Wk.F1 {v0:Value}{x0:LL}(m:Mem W G w (H))(h0:R2 G v0 x0){y:(LL)×((List ((Int×Int)×Int)))}(hd:D.c2 x0=some y):
  Calls prog 104 #[v0] w (Res W G H (λG' Ho v=>∃r0:Value,∃i0:Itm,∃r2:Value,∃i2:Itm,Ho=[i0,i2]∧v= .tuple #[r0,r2]∧Ow2 R0 87 3 G' i0 r0 y.1∧OwMq G' i2 r2 y.2)):=by
 refine Au (args:=[v0]) (N:=80) [.tmp 2,.tmp 3] func104 Z Z (lb Z) Z λa f=> ?_
 unfold D.c2 at hd
 refine Ae (Ac f Z λa f=>Ac f Z λa f=>Ay (A9 (R:=RawS) (xs:=[]) RawS.one m T79 f Z Z Z (by decide) (All2.nil _) λaa ab w a m ac f=> ?_))
 obtain⟨ad,m,ae⟩:=Ow2.of_empty R0 3 m ac
 refine l_makeMq m f Z λaf ag w a m ah f=>Ac f Z λa f=>Ac f Z λa f=>Aa (Ag (Ae (Ab f Z λa f=>Bg underlying80 f Z Z h0 λa f=>Ab f Z λa f=>Aa (Bd hd λai aj hd=> ?_))))
 refine AL (λa w=>∃ak:LL,∃al:List ((Int×Int)×Int),(ak,al)=ai∧∃(am:GH) (an:Value) (ao:Itm) (ap:Itm),GLe G am∧Fr a 80 [(4,an),(5,ag)]∧Mem W am w (ao::ap::H)∧Ow2 R0 87 3 am ao an ak∧OwMq am ap ag al) ?_ ?_
 ·refine Ao (have m:=m.fr 1;AM (λaq a w=>∃ar:LL,∃au:List ((Int×Int)×Int),∃av:Int,(ar,au,av)=aq∧∃(aw:GH) (ax:Value) (ay:Itm) (az:Itm),GLe G aw∧Fr a 80 [(0,v0),(4,ax),(5,ag),(18,v0),(19,(iv (x0.length:Int))),(20,iv av)]∧Mem W aw w (ay::az::H)∧Ow2 R0 87 3 aw ay ax ar∧OwMq aw az ag au) aj ⟨_,_,_,Z,_,ab,ad,af,gr,f.k Z,m,ae,ah⟩ ?_)
  clear aj f m
  rintro aq aA aB aC a w ⟨ar,au,av,rfl,aw,ax,ay,az,aD,f,m,aE,aF⟩
  refine have h0:=rd2 aD h0;Ae (Ah f Z Z AV λa f=>Aa (Ag ?_))
  rcases Af aB with⟨aG,aB⟩|⟨aG,aB⟩
  ·refine Al f Z aG (Ap (Ag (Ao (Ae (Ab f Z λa f=>Bd aB λaH aI aB=>BI T80 f Z Z Z h0 aI λaJ aK a aL aM f=>A3 m Ds f Z Z aL λa f=>Ac f Z λa f=>Ac f Z λa f=>Ay (Ab f Z λa f=>AI f Z call112 (Wk.t2 m aM) λaN aO aP w aQ m aR a f=> ?_))))))
   obtain⟨aS,rfl,rfl⟩:=aR
   refine have h0:=rd2 aQ h0;have aM:=rd1 aQ aM;have aE:=od2 aQ aE;have aF:=OwMq.mono trivial aQ aF;Bd aB λaT aU aB=>BP f Z call111 (Wk.v0 m aM aU) λaV aW aX w aY m aZ a f=>have h0:=rd2 aY h0;have aE:=od2 aY aE;have aF:=OwMq.mono trivial aY aF;BJ 0 m aZ Z underlying87 f Z Z λa f=>Ab f Z λa f=>Aa (Bd aB λa0 a1 aB=> ?_)
   refine AL (λa w=>∃a2:LL,∃a3:List ((Int×Int)×Int),(a2,a3)=a0∧∃(a4:GH) (a5:Value) (a6:Itm) (a7:Itm),GLe aX a4∧Fr a 80 [(0,v0),(4,a5),(5,ag),(18,v0),(19,(iv (x0.length:Int))),(20,iv av)]∧Mem W a4 w (a6::a7::H)∧Ow2 R0 87 3 a4 a6 a5 a2∧OwMq a4 a7 ag a3) ?_ ?_
   ·refine Ao (have m:=m.fr 2;have m:=m.fr 2;AM (λa8 a w=>∃a9:LL,∃ba:List ((Int×Int)×Int),∃bb:Int,(a9,ba,bb)=a8∧∃(bc:GH) (bd:Value) (be:Itm) (bf:Itm),GLe aX bc∧Fr a 80 [(0,v0),(4,bd),(5,ag),(6,iv av),(18,v0),(19,(iv (x0.length:Int))),(20,iv av),(27,aV),(28,(iv (aT.length:Int))),(29,iv bb)]∧Mem W bc w (be::bf::aW::H)∧Ow2 R0 87 3 bc be bd a9∧OwMq bc bf ag ba) a1 ⟨_,_,_,Z,_,ax,ay,az,gr,f.k Z,m,aE,aF⟩ ?_)
    clear a1 f m
    rintro a8 bg bh bi a w ⟨a9,ba,bb,rfl,bc,bd,be,bf,bj,f,m,bk,bl⟩
    refine have h0:=rd2 bj h0;have aZ:=od1 bj aZ;Ae (Ah f Z Z AV λa f=>Aa (Ag ?_))
    rcases Af bh with⟨bm,bh⟩|⟨bm,bh⟩
    ·refine Al f Z bm (Ap (Ag (Ao (Ae (Bd bh λbn bo bh=>Bq 2 m aZ Z T87 f Z Z Z bo λbp a bq f=>BW 2 m aZ Z Pl3 f Z Z bq bo λbr a bs f=> ?_)))))
     subst bs
     refine Ac f Z λa f=>Aa (Ag (Ae (Ab f Z λa f=>Ab f Z λa f=>Ab f Z λa f=> ?_)))
     have bt:∀w,(Instr.build 122 #[(0,iv av),(1,iv bn)]).run prog w= .ok (.agg #[iv av,iv bn]) w:=by intro w;simp[Instr.build,Instr.fill,Bb,A6,AT,A2,AQ,Bc,A7]
     refine Bv f Z Z bt λa f=>l_lookMq Mk122 (i:=(av,bn)) 1 m bl Z underlying126 zeroValue3 f Z Z Z λa f=>Ab f Z λa f=>l_o f (AE (f.e Z) Z) λa f=>l_o f (AE (f.e Z) Z) λa f=>Ac f Z λa f=>Ac f Z λa f=>Ay (Ab f Z λa f=>Aa ?_)
     rcases Af bh with⟨bu,bh⟩|⟨bu,bh⟩
     ·refine Al f Z bu (AK Z (Aq (Ah f Z Z Ax λa f=>Ab f Z λa f=>Aa ?_)))
      obtain rfl:=sj bh
      exact⟨_,Z,_,_,_,Z,_,bd,be,bf,bj,f.k Z,m,bk,bl⟩
     ·refine Ai f Z bu (Ap (Ae (A9 (R:=R0) (xs:=([]:LI)) (RI.one _) m T87 f Z Z Z (by decide) (All2.nil _) λbv bw w a m bx f=>Ac f Z λa f=>Aa (Ag (Ae (Ab f Z λa f=>Ab f Z λa f=> ?_))))))
      have bz:∀w,(Instr.build 122 #[(0,iv av),(1,iv bn)]).run prog w= .ok (.agg #[iv av,iv bn]) w:=by intro w;simp[Instr.build,Instr.fill,Bb,A6,AT,A2,AQ,Bc,A7]
      refine Bv f Z Z bz λa f=>AP (cs:=[iv 0,iv 0]) zeroValue122 m f Z Z λbA w a m f=>Am 0 0 (ds:=[iv av,iv bn]) m sizeOf122 f Z Z Z (Ak Z (Ak Z As)) Z (lb Z) Z λw m=>Aa (Bd bh λbB bC bh=> ?_)
      refine AL (λa w=>∃bD:List ((Int×Int)×Int),∃bE:LI,(bD,bE)=bB∧∃(bF:GH) (bG:Itm) (bH:Value) (bI:Itm),GLe bc bF∧Fr a 80 [(0,v0),(4,bd),(5,ag),(6,iv av),(12,bH),(18,v0),(19,(iv (x0.length:Int))),(20,iv av),(27,aV),(28,(iv (aT.length:Int))),(29,iv bb)]∧Mem W bF w (be::bG::bI::aW::H)∧OwMq bF bG ag bD∧Ow R0 3 bF bI bH bE) ?_ ?_
      ·refine Ao (have m:=m.fr 1;have m:=m.fr 3;have m:=m.fr 3;AM (λbJ a w=>∃bK:List ((Int×Int)×Int),∃bL:LI,∃bM:Int,∃bN:Int,(bK,bL,bM,bN)=bJ∧∃(bO:GH) (bP:Itm) (bQ:Value) (bR:Itm) (bS:Nat),GLe bc bO∧Fr a 80 [(0,v0),(4,bd),(5,ag),(6,iv av),(12,bQ),(13,pb bS),(18,v0),(19,(iv (x0.length:Int))),(20,iv av),(27,aV),(28,(iv (aT.length:Int))),(29,iv bb)]∧Mem W bO w (be::bP::bR::ib bS 122 [iv bM,iv bN]::aW::H)∧OwMq bO bP ag bK∧Ow R0 3 bO bR bQ bL) bC ⟨_,_,_,_,Z,_,bf,bw,bv,bA,gr,f.k Z,m,bl,bx⟩ ?_)
       clear bC f m
       rintro bJ bT bU bV a w ⟨bK,bL,bM,bN,rfl,bO,bP,bQ,bR,bS,bW,f,m,bX,bY⟩
       refine have h0:=rd2 bW h0;have bk:=od2 bW bk;Ag (Ao (Ag (Ae (Ab f Z λa f=>AA 3 0 (ds:=[iv bM,iv bN]) m Ag122 f Z Z Z Z Z λa f=>l_lookMq Mk122 (i:=(bM,bN)) 1 m bX Z underlying126 zeroValue3 f Z Z Z λa f=>Ab f Z λa f=>l_o f (AE (f.e Z) Z) λa f=>l_o f (AE (f.e Z) Z) λa f=>Ac f Z λa f=>Ac f Z λa f=>Ay (Ab f Z λa f=>Aa ?_)))))
       rcases Af bU with⟨bZ,bU⟩|⟨bZ,bU⟩
       ·refine Al f Z bZ (AK Z (have m:=m.fr 4;have m:=m.fr 3;have m:=m.fr 3;have m:Mem W bO w (be::bP::bR::aW::ib bS 122 [iv bM,iv bN]::H):=m.fr 3;have m:=m.eraseAt 4;?_))
        obtain rfl:=sj bU
        obtain rfl:=bV _ rfl
        exact⟨_,_,Z,_,bP,bQ,bR,bW,f.k Z,m,bX,bY⟩
       ·refine Ai f Z bZ (Ap (Ae (Ab f Z λa f=>AA 3 0 (ds:=[iv bM,iv bN]) m Ag122 f Z Z Z Z Z λa f=>Ab f Z λa f=>l_own2_len 0 m bk Z underlying79 f Z Z λa f=>Bd bU λb0 b1 bU=>l_putMq Mk122 (i:=(bM,bN)) 1 m bX Z underlying126 f Z Z Z b1 λb2 w m b3=>Aa (Aq (Ab f Z λa f=>Bu underlying122 Z sizeOf3 f Z λa f=>AG 3 0 m Pl3 f Z Z Z Z λa f=>A9 (R:=R0) (xs:=([bM]:LI)) (RI.one _) m T87 f Z Z Z (by decide) (All2.cons Z (All2.nil _)) λb4 b5 w a m b6 f=>Bd bU λb7 b8 bU=>Bm (RI.one _) 3 m bY Z T87 Z (by decide) f Z Z Z (Ow.src (j:=0) b6 m Z) b8 λb9 ca w a m cb f=>Ac f Z λa f=>Aa (Ag (Ae (AA 4 0 (ds:=[iv bM,iv bN]) m Ag122 f Z Z Z Z Z λa f=>Aa (Aq (AP (cs:=[iv 0,iv 0]) zeroValue122 m f Z Z λcc w a m f=>Am 0 0 (ds:=[iv bM,iv bN]) m sizeOf122 f Z Z Z (Ak Z (Ak Z As)) Z (lb Z) Z λw m=>Aa ?_))))))))))
        refine A5 9 AF (by kernel_rfl) m (BE 0 9 underlying122 Z sizeOf3 Z f Z λa f=>Bf 1 9 0 Pl3 Z Z Z f Z λa f=>Aj 2 9 Z f Z λa f=>BE 3 9 underlying122 Z sizeOf3 Z f Z λa f=>Bf 4 9 0 Pl3 Z Z Z f Z λa f=>BE 5 9 underlying122 Z sizeOf3 Z f Z λa f=>Bf 6 9 0 Pl3 Z Z Z f Z λa f=>Bd bU λcd ce bU=>BH (i:=7) 9 Z (by kernel_rfl) Z f Z Z Z call113 (λ_ _ w cf m=>Wk.b1 m (rd2 cf h0) ce) λa f=> ?_)
        have cg:∀w,(Instr.build 122 #[(0,iv bN),(1,iv cd)]).run prog w= .ok (.agg #[iv bN,iv cd]) w:=by intro w;simp[Instr.build,Instr.fill,Bb,A6,AT,A2,AQ,Bc,A7]
        refine q_p 8 9 Z f (λ_=>r_buildF f Z cg) λa f=>AO λch w ci m=>have b3:=OwMq.mono trivial ci b3;have cb:=od1 ci cb;Am 0 0 (ds:=[iv bN,iv cd]) m sizeOf122 f Z Z Z (Ak Z (Ak Z As)) Z (lb Z) Z λw m=>Aa (have m:=m.fr 6;have m:=m.fr 1;have m:=m.fr 5;have m:Mem W ch w (b2::b9::ib cc 122 [iv bN,iv cd]::aW::b4::be::ib bS 122 [iv bM,iv bN]::H):=m.fr 5;have m:=m.fr 5;have m:=m.eraseAt 6;have m:=m.eraseAt 5;?_)
        obtain rfl:=sj bU
        exact⟨_,Z,_,_,_,_,Z,_,b2,ca,b9,cc,(gt bW ci),f.k Z,m,b3,cb⟩
      ·rintro a w ⟨bD,bE,rfl,bF,bG,bH,bI,cj,f,m,ck,cl⟩
       refine have bk:=od2 cj bk;Aq (Ab f Z λa f=>Ab f Z λa f=>A9 (R:=RawS) (xs:=[bH]) RawS.one m T79 f Z Z Z (by decide) (All2.cons ⟨Z,Ow.one1 2 m cl Z,Ow.cells 2 m cl Z⟩ (All2.nil _)) λcm cn w a m co f=>have m:=m.fr 3;have m:=m.fr 2;Bd bh λcp cq bh=>EU m bk cl co T79 Z (by decide) f Z Z Z cq λcr ct w a m cu f=>Ac f Z λa f=>Aa (Aq (Ah f Z Z Ax λa f=>Ab f Z λa f=>Aa ?_)))
       obtain rfl:=sj bh
       exact⟨_,Z,_,_,_,Z,_,ct,cr,bG,(gt bj cj),f.k Z,m,cu,ck⟩
    ·refine Ai f Z bm (AK Z (have m:=m.eraseAt 2;?_))
     obtain rfl:=sj bh
     obtain rfl:=bi _ rfl
     exact⟨_,_,Z,_,bd,be,bf,bj,f.k Z,m,bk,bl⟩
   ·rintro a w ⟨a2,a3,rfl,a4,a5,a6,a7,cv,f,m,cw,cx⟩
    refine Aq (Ah f Z Z Ax λa f=>Ab f Z λa f=>Aa ?_)
    obtain rfl:=sj aB
    exact⟨_,Z,_,_,_,Z,_,a5,a6,a7,(gt aD (gt aQ (gt aY cv))),f.k Z,m,cw,cx⟩
  ·refine Ai f Z aG (AK Z ?_)
   obtain rfl:=sj aB
   obtain rfl:=aC _ rfl
   exact⟨_,_,Z,_,ax,ay,az,aD,f.k Z,m,aE,aF⟩
 ·rintro a w ⟨ak,al,rfl,am,an,ao,ap,cy,f,m,cz,cA⟩
  refine Ae (Ab f Z λa f=>Ab f Z λa f=>Ac f Z λa f=>Ac f Z λa f=>Aa (Ar ?_))
  obtain rfl:=sj hd
  exact⟨[an,ag],⟨f.get _ _ Z,f.get _ _ Z,trivial⟩,f.d,_,[ao,ap],cy,m,_,_,_,_,Z,Z,cz,cA⟩
theorem Wk.w1 {v0 v1:Value}{x0 x1:LL}(m:Mem W G w (H))(h0:R2 G v0 x0)(h1:R2 G v1 x1){y:Int}(hd:D.w1 x0 x1=some y):
  Calls prog 53 #[v0,v1,Fv 54] w (Res W G H (λ_ Ho v=>Ho=[]∧v=(iv y))):=by
 refine Au (args:=[v0,v1,Fv 54]) (N:=39) [.tmp 6] func53 Z Z (lb Z) Z λa f=> ?_
 unfold D.w1 at hd
 refine Ae (Ac f Z λa f=>Aa (Ag (Ae (Ab f Z λa f=>Bg underlying24 f Z Z h0 λa f=>Ab f Z λa f=>Aa (Bd hd λaa ab hd=> ?_)))))
 refine AL (λa w=>∃q_47':Unit,aa= .inl q_47'∧∃(ac:GH),GLe G ac∧Fr a 39 [(0,v0),(1,v1)]∧Mem W ac w (H)) ?_ ?_
 ·refine Ao (AM (λad a w=>∃ae:Int,ae=ad∧∃(af:GH),GLe G af∧Fr a 39 [(0,v0),(1,v1),(2,Fv 54),(11,v0),(12,(iv (x0.length:Int))),(13,iv ae)]∧Mem W af w (H)) ab ⟨_,Z,_,gr,f.k Z,m⟩ ?_)
  clear ab f m
  rintro ad ag ah ai a w ⟨ae,rfl,af,aj,f,m⟩
  refine have h0:=rd2 aj h0;have h1:=rd2 aj h1;Ae (Ah f Z Z AV λa f=>Aa (Ag ?_))
  rcases Af ah with⟨ak,ah⟩|⟨ak,ah⟩
  ·refine Al f Z ak (Ap (Ag (Ao (Ae (Ab f Z λa f=>Bd ah λal am ah=>BI T24 f Z Z Z h0 am λan ao a ap aq f=>A3 m BU f Z Z ap λa f=>Ac f Z λa f=>Ac f Z λa f=>Aa (Ag (Ae (Ab f Z λa f=>Ab f Z λa f=>Bg underlying24 f Z Z h1 λa f=>Ah f Z Z CC λa f=>Aa ?_))))))))
   rcases Af ah with⟨ar,ah⟩|⟨ar,ah⟩
   ·refine Al f Z ar (Ae (Ac f Z λa f=>Aa (Ar ?_)))
    obtain rfl:=sj ah
    obtain rfl:=ai _ rfl
    obtain rfl:=sj hd
    exact⟨[iv 1],f.g Z,f.d,_,[],aj,m,Z,Z⟩
   ·refine Ai f Z ar (Ap (Ae (Ab f Z λa f=>Ab f Z λa f=>Bd ah λau av ah=>BI T24 f Z Z Z h1 av λaw ax a ay az f=>A3 m BU f Z Z ay λa f=>Ac f Z λa f=>Ay (Ab f Z λa f=>Ab f Z λa f=>Ab f Z λa f=>Bd ah λaA aB ah=>Ff f Z Z Z call54 (Wk.W0 m aq az aB) λaC aD aE w aF m aG a f=> ?_))))
    obtain⟨rfl,rfl⟩:=aG
    refine Ac f Z λa f=>Ay (Ab f Z λa f=>Ah f Z Z Dc λa f=>Aa ?_)
    rcases Af ah with⟨aH,ah⟩|⟨aH,ah⟩
    ·refine Al f Z aH (Ae (Ab f Z λa f=>Ac f Z λa f=>Aa (Ar ?_)))
     obtain rfl:=sj ah
     obtain rfl:=ai _ rfl
     obtain rfl:=sj hd
     exact⟨[iv aA],f.g Z,f.d,_,[],(gt aj aF),m,Z,Z⟩
    ·refine Ai f Z aH (Ap (Aq (Ah f Z Z Ax λa f=>Ab f Z λa f=>Aa ?_)))
     obtain rfl:=sj ah
     exact⟨_,Z,_,Z,_,(gt aj aF),f.k Z,m⟩
  ·refine Ai f Z ak (AK Z ?_)
   obtain rfl:=sj ah
   obtain rfl:=ai _ rfl
   exact⟨_,Z,_,aj,f.k Z,m⟩
 ·rintro a w ⟨_,rfl,ac,aI,f,m⟩
  refine have h0:=rd2 aI h0;have h1:=rd2 aI h1;Ag (Ae (Ab f Z λa f=>Bg underlying24 f Z Z h0 λa f=>Ab f Z λa f=>Bg underlying24 f Z Z h1 λa f=>Ah f Z Z AV λa f=>Aa ?_))
  rcases Af hd with⟨aJ,hd⟩|⟨aJ,hd⟩
  ·refine Al f Z aJ (Ae (Ac f Z λa f=>Aa (Ar ?_)))
   obtain rfl:=sj hd
   exact⟨[(iv (-1))],f.g Z,f.d,_,[],aI,m,Z,Z⟩
  ·refine Ai f Z aJ (Ap (Ae (Ac f Z λa f=>Aa (Ar ?_))))
   obtain rfl:=sj hd
   exact⟨[iv 0],f.g Z,f.d,_,[],aI,m,Z,Z⟩
theorem Wk.y1 {v0:Value}{it0:Itm}{b1 b2:Nat}{aa:Value}{ab:Itm}{x0:LL}{ac:Bool}{ad:LL}(m:Mem W G w (it0::ib b1 4 [(.bool ac)]::ib b2 62 [aa]::ab::H))(o0:Ow R1 87 G it0 v0 x0)(ae:Ow2 R0 30 2 G ab aa ad){y:(LL)×Bool×(LL)}(hd:D.y1 x0 ac ad=some y):
  Calls prog 51 #[v0,pb b1,pb b2] w (Res W G H (λG' Ho _=>∃i0:Itm,∃r1:Value,∃i1:Itm,Ho=[i0,ib b1 4 [(.bool y.2.1)],ib b2 62 [r1],i1]∧Ow R1 87 G' i0 v0 y.1∧Ow2 R0 30 2 G' i1 r1 y.2.2)):=by
 refine Au (args:=[v0,pb b1,pb b2]) (N:=18) [] func51 Z Z (lb Z) Z λa f=> ?_
 unfold D.y1 at hd
 refine Ae (Ab f Z λa f=>Bd hd λaf ag hd=>AI f Z call52 (Ow.lendCall (RSl.mono (RI.mono _)) 0 o0 m Z (λah ai m aj=>Wk.g1 m aj ag) (λ_ G' _ _ ⟨a0,a1,e1,e2,o0⟩=>⟨a0,a1,e1,e2,Ow2.free (RI.free _) G' o0⟩)) λak al am w an m ao a f=> ?_)
 obtain⟨ap,aq,rfl,rfl,ar⟩:=ao
 refine have o0:=od3 an o0;have ae:=od2 an ae;AP (cs:=[sn]) zeroValue62 m f Z Z λau w a m f=>Am 0 0 (ds:=[ap]) m sizeOf62 f Z Z Z (Ak (Ow2.one1 1 m ar Z) As) Z (lb Z) Z λw m=>Ay (AG 3 0 m Pl4 f Z Z Z Z λa f=>l_o f (BN (f.e Z)) λa f=>Ab f Z λa f=>Bd hd λav aw hd=> ?_)
 refine BF 7 (λa w=>∃ax,GLe al ax∧Mem W ax w (ib au 62 [ap]::aq::it0::ib b1 4 [(.bool ac)]::ib b2 62 [aa]::ab::H)∧Fr a 18 [(0,v0),(1,pb b1),(2,pb b2),(4,pb au),(7,(.bool ac)),(8,(.bool (!ac))),(9,(.bool (!ac))),(16,(.bool av))]) ?_ ?_
 ·rcases Af aw with⟨ay,aw⟩|⟨ay,aw⟩
  ·refine AC f ay λa f=>AC f ay λa f=>AC f ay λa f=>AC f ay λa f=>AC f ay λa f=>AC f ay λa f=>l_o f (AY (f.e Z) ay (f.e Z)) λa f=> ?_
   obtain rfl:=sj aw
   exact⟨_,gr,m,f.k Z⟩
  ·refine AB f ay (Bu underlying62 Z sizeOf24 f Z λa f=>AB f ay (AG 0 0 m BC f Z Z Z Z λa f=>AB f ay (Bu underlying62 Z sizeOf24 f Z λa f=>AB f ay (AG 4 0 m BC f Z Z Z Z λa f=>AB f ay (Bd aw λaz aA aw=>AI f Z call53 (Ow2.lendCall (RI.mono _) 1 ar m Z (λaB aC m aD=>(Ow2.lendCall (RI.mono _) 4 (od2 aC ae) m Z (λaE aF m aG=>Wk.w1 m (rd2 aF aD) aG aA) (λ_ _ _ _ h=>h))) (λ_ _ _ _ h=>h)) λaH aI aJ w aK m aL a f=> ?_)))))
   obtain⟨rfl,rfl⟩:=aL
   refine AB f ay (Ah f Z Z AV λa f=>l_o f (AX (f.e Z) ay (f.e Z)) λa f=> ?_)
   obtain rfl:=sj aw
   exact⟨_,aK,m,f.k Z⟩
 ·rintro a w ⟨ax,aM,m,f⟩
  refine have ar:=od2 aM ar;have o0:=od3 aM o0;have ae:=od2 aM ae;Aa ?_
  rcases Af hd with⟨aN,hd⟩|⟨aN,hd⟩
  ·refine Al f Z aN (Aq (AA 0 0 (ds:=[ap]) m Ag62 f Z Z Z Z Z λa f=>Am 4 0 (ds:=[ap]) m sizeOf62 f Z Z Z (Ak (Ow2.one1 1 m ar Z) As) Z (lb Z) Z λw m=>Am 3 0 (ds:=[(.bool true)]) m sizeOf4 f Z Z Z (Ak Z As) Z (lb Z) Z λw m=>Aa (have m:=m.fr 1;have m:=m.fr 4;have m:=m.fr 4;have m:Mem W ax w (it0::ib b1 4 [(.bool true)]::ib b2 62 [ap]::aq::ib au 62 [ap]::ab::H):=m.fr 4;have m:=m.fr 5;have m:=m.fr 4;have m:=m.fr 4;have m:Mem W ax w (ib b1 4 [(.bool true)]::ib b2 62 [ap]::aq::ab::it0::ib au 62 [ap]::H):=m.fr 4;have m:=m.fr 4;have m:=m.eraseAt 5;have m:=m.eraseAt 4;?_)))
   obtain rfl:=sj hd
   exact⟨[],trivial,f.d,_,[it0,ib b1 4 [(.bool true)],ib b2 62 [ap],aq],(gt an aM),m,_,_,_,Z,o0,ar⟩
  ·refine Ai f Z aN (Ap (have m:=m.fr 5;have m:=m.fr 5;have m:=m.fr 5;have m:Mem W ax w (it0::ib b1 4 [(.bool ac)]::ib b2 62 [aa]::ab::ib au 62 [ap]::aq::H):=m.fr 5;have m:=m.fr 5;have m:=m.fr 4;have m:=m.fr 4;have m:Mem W ax w (ib b1 4 [(.bool ac)]::ib b2 62 [aa]::ab::aq::it0::ib au 62 [ap]::H):=m.fr 4;have m:=m.fr 4;have m:=m.eraseAt 5;have m:=m.eraseAt 4;?_))
   obtain rfl:=sj hd
   exact⟨[],trivial,f.d,_,[it0,ib b1 4 [(.bool ac)],ib b2 62 [aa],ab],(gt an aM),m,_,_,_,Z,o0,ae⟩
theorem Wk.d0 {b0:Nat}{aa ab:Value}{ac:Itm}{b0f0 b0f1:Nat}{v0f1_0:Value}{it0f1_0:Itm}{ad:(List (Int×Int))}{ae:LL}{x0f0_0:Bool}{x0f1_0:LL}{x1 x2 x3:Int}(m:Mem W G w (B7 b0 b0f0 b0f1 aa ab::ac::ib b0f0 4 [(.bool x0f0_0)]::ib b0f1 62 [v0f1_0]::it0f1_0::H))(af:RSr P2 G aa ad)(ag:Ow R1 87 G ac ab ae)(o0f1_0:Ow2 R0 30 2 G it0f1_0 v0f1_0 x0f1_0){y:(LL)×(LL)}(hd:D.d0 ad ae x0f0_0 x0f1_0 x1 x2 x3=some y):
  Calls prog 105 #[pb b0,iv x1,iv x2,iv x3] w (Res W G H (λG' Ho _=>∃r0:Value,∃i0:Itm,∃r2:Value,∃i2:Itm,Ho=[B7 b0 b0f0 b0f1 aa r0,i0,ib b0f0 4 [(.bool x0f0_0)],ib b0f1 62 [r2],i2]∧Ow R1 87 G' i0 r0 y.1∧Ow2 R0 30 2 G' i2 r2 y.2)):=by
 refine Au (args:=[pb b0,iv x1,iv x2,iv x3]) (N:=36) [] func105 Z Z (lb Z) Z λa f=> ?_
 unfold D.d0 at hd
 have⟨ah,ai,hd⟩:=bind_some hd
 refine AL (λa w=>∃aj:LL,aj=ah∧∃(ak:GH) (al:Itm),GLe G ak∧Fr a 36 []∧Mem W ak w (B7 b0 b0f0 b0f1 aa ab::ib b0f0 4 [(.bool x0f0_0)]::ib b0f1 62 [v0f1_0]::al::it0f1_0::H)∧Ow R1 87 ak al ab aj) ?_ ?_
 ·refine A5 27 AF (by kernel_rfl) m (Aj 0 27 Z f Z λa f=>q_p 1 27 Z f (λ_=>AH (f.e Z)) λa f=>BE 2 27 underlying113 Z sizeOf80 Z f Z λa f=>Bf 3 27 0 Pl80 Z Z Z f Z λa f=>Aj 4 27 Z f Z λa f=>Aj 5 27 Z f Z λa f=>q_p 6 27 Z f (λ_=>AH (f.e Z)) λa f=>BE 7 27 underlying113 Z sizeOf80 Z f Z λa f=>Bf 8 27 0 Pl80 Z Z Z f Z λa f=>Aj 9 27 Z f Z λa f=>Bd ai λam an ai=>A4 10 27 1 m ag T80 an Z f Z Z λao a ap f=>Bk 11 27 1 ag Ds ap an Z f Z λaq a ar f=>Aj 13 27 Z f Z λa f=>q_p 14 27 Z f (λ_=>A8 (f.e Z) (f.e Z) Ax) λa f=>Aj 15 27 Z f Z λa f=>q_p 16 27 Z f (λ_=>AH (f.e Z)) λa f=>BE 17 27 underlying113 Z sizeOf80 Z f Z λa f=>Bf 18 27 0 Pl80 Z Z Z f Z λa f=>Aj 19 27 Z f Z λa f=>Bd ai λau av ai=>A4 20 27 1 m ag T80 av Z f Z Z λaw a ax f=>Bk 21 27 1 ag Ds ax av Z f Z λay a az f=> ?_)
  refine Eo (i:=22) 27 underlying87 az Z (by kernel_rfl) Z f Z Z Z λa f=>q_p 23 27 Z f (λ_=>r_min2 (f.e Z) (f.e Z)) λa f=>Aj 24 27 Z f Z λa f=>CD (i:=12) (j:=25) (l1:= #[true,true,true,true,true,true,true,true,true,true,true,true,true,true,true,true,true,true,true,true,true,true,true,true,true,false,false,false,false]) (l2:= #[true,true,true,true,true,true,true,true,true,true,true,true,false,true,true,true,true,true,true,true,true,true,true,true,true,true,false,false,false]) Z Z (by kernel_rfl) Z Z ?_ ?_
  ·intro aA w aB m aC aC
   refine have ar:=rd1 aB ar;have ag:=od3 aB ag;Bd ai λaD aE ai=>BP f Z call110 (Wk.S m ar aE) λaF aG aH w aI m aJ a f=>have ag:=od3 aI ag;Aa (aC aH [aG] _ _ aI m (Bh 25 Z λaK w aL m aM aM=>have aJ:=od1 aL aJ;have ag:=od3 aL ag;A9 (R:=R0) (xs:=([x2]:LI)) (RI.one _) m T87 f Z Z Z (by decide) (All2.cons Z (All2.nil _)) λaN aO w a m aP f=>Aa (aM aK [aN,aG] _ _ gr m (Bh 26 Z λaQ w aR m aS aS=>have aP:=od1 aR aP;have aJ:=od1 aR aJ;have ag:=od3 aR ag;have m:=m.fr 1;Bd ai λaT aU ai=>AI f Z call114 (Wk.u1 m aJ aP aU) λaV aW aX w aY m aZ a f=> ?_))))
   obtain⟨a0,a1,rfl,rfl,a2⟩:=aZ
   refine have ag:=od3 aY ag;Aa (aS aW [a1] _ _ aY m (AO λa3 w a4 m=>have a2:=od1 a4 a2;have ag:=od3 a4 ag;Bd ai λa5 a6 ai=>Bq 2 m ag Z T80 f Z Z Z a6 λa7 a a8 f=> ?_))
   obtain⟨a9,ba,m,bb⟩:=Ow.stamp (RI.mono _) a2 m
   refine have ag:=od3 ba ag;AR 1 m ag Z sizeOf87 f Z Z a8 a6 bb.cells bb.one1 bb λbc w m bd=>Aa (have m:=m.fr 3;have m:=m.fr 3;have m:=m.fr 2;?_)
   obtain rfl:=sj ai
   exact⟨_,Z,_,bc,(gt aB (gt aI (gt aL (gt aR (gt aY (gt a4 ba)))))),f.weak trivial,m,bd⟩
  ·intro aK w aL m aM aM
   refine Bd ai λaD aE ai=>Bd ai λaT aU ai=>Bd ai λa5 a6 ai=>have ar:=rd1 aL ar;have ag:=od3 aL ag;A9 (R:=R0) (xs:=([x2]:LI)) (RI.one _) m T87 f Z Z Z (by decide) (All2.cons Z (All2.nil _)) λaN aO w a m aP f=>Aa (aM aK [aN] _ _ gr m (Bh 12 Z λaA w aB m aC aC=>have ar:=rd1 aB ar;have aP:=od1 aB aP;have ag:=od3 aB ag;BP f Z call110 (Wk.S m ar aE) λaF aG aH w aI m aJ a f=>have aP:=od1 aI aP;have ag:=od3 aI ag;Aa (aC aH [aG,aN] _ _ aI m (Bh 26 Z λaQ w aR m aS aS=>have aJ:=od1 aR aJ;have aP:=od1 aR aP;have ag:=od3 aR ag;AI f Z call114 (Wk.u1 m aJ aP aU) λaV aW aX w aY m aZ a f=> ?_))))
   obtain⟨a0,a1,rfl,rfl,a2⟩:=aZ
   refine have ag:=od3 aY ag;Aa (aS aW [a1] _ _ aY m (AO λa3 w a4 m=>have a2:=od1 a4 a2;have ag:=od3 a4 ag;Bq 2 m ag Z T80 f Z Z Z a6 λa7 a a8 f=> ?_))
   obtain⟨a9,ba,m,bb⟩:=Ow.stamp (RI.mono _) a2 m
   refine have ag:=od3 ba ag;AR 1 m ag Z sizeOf87 f Z Z a8 a6 bb.cells bb.one1 bb λbc w m bd=>Aa (have m:=m.fr 3;have m:=m.fr 3;have m:=m.fr 2;?_)
   obtain rfl:=sj ai
   exact⟨_,Z,_,bc,(gt aL (gt aB (gt aI (gt aR (gt aY (gt a4 ba)))))),f.weak trivial,m,bd⟩
 ·rintro a w ⟨aj,rfl,ak,al,be,f,m,bf⟩
  refine have o0f1_0:=od2 be o0f1_0;have m:=m.fr 3;have m:=m.fr 1;?_
  obtain rfl:=sj hd
  exact⟨[],trivial,f.d,_,[B7 b0 b0f0 b0f1 aa ab,al,ib b0f0 4 [(.bool x0f0_0)],ib b0f1 62 [v0f1_0],it0f1_0],be,m,_,_,_,_,Z,bf,o0f1_0⟩
theorem Wk.w0 {W:World}(n:Nat):∀{w:World} {G:GH} {H:List Itm} {b0:Nat} {aa ab:Value} {ac:Itm} {b0f0 b0f1:Nat} {v0f1_0:Value} {it0f1_0:Itm} {ad:(List (Int×Int))} {ae:LL} {x0f0_0:Bool} {x0f1_0:LL} {x1:Int} (m:Mem W G w (B7 b0 b0f0 b0f1 aa ab::ac::ib b0f0 4 [(.bool x0f0_0)]::ib b0f1 62 [v0f1_0]::it0f1_0::H)) (af:RSr P2 G aa ad) (ag:Ow R1 87 G ac ab ae) (o0f1_0:Ow2 R0 30 2 G it0f1_0 v0f1_0 x0f1_0) {y:(LL)×Bool×(LL)} (hd:D.w0 n ad ae x0f0_0 x0f1_0 x1=some y),
  Calls prog 87 #[pb b0,iv x1] w (Res W G H (λG' Ho _=>∃r0:Value,∃i0:Itm,∃r2:Value,∃i2:Itm,Ho=[B7 b0 b0f0 b0f1 aa r0,i0,ib b0f0 4 [(.bool y.2.1)],ib b0f1 62 [r2],i2]∧Ow R1 87 G' i0 r0 y.1∧Ow2 R0 30 2 G' i2 r2 y.2.2)):=by
 induction n with
 |zero=>intros;rename_i hd;simp[D.w0] at hd
 |succ fuel ih=>
  intro w G H b0 aa ab ac b0f0 b0f1 v0f1_0 it0f1_0 ad ae x0f0_0 x0f1_0 x1 m af ag o0f1_0 y hd
  refine Au (args:=[pb b0,iv x1]) (N:=135) [] func87 Z Z (lb Z) Z λa f=> ?_
  unfold D.w0 at hd
  refine Ag (Ae (Ab f Z λa f=>Ab f Z λa f=>l_o f (AH (f.e Z)) λa f=>Bu underlying113 Z sizeOf98 f Z λa f=>AG 0 0 m Pl98 f Z Z Z Z λa f=>l_lenR underlying98 f Z Z af λa f=>Ah f Z Z BA λa f=>Aa ?_))
  rcases Af hd with⟨ah,hd⟩|⟨ah,hd⟩
  ·refine Al f Z ah (Ag (have m:=m.fr 4;have m:=m.fr 4;have m:=m.fr 4;have m:=m.fr 4;DY [ac,ib b0f0 4 [(.bool x0f0_0)],ib b0f1 62 [v0f1_0],it0f1_0] (B7 b0 b0f0 b0f1 aa ab::H) 9 AF (by kernel_rfl) m (Aj 0 9 Z f Z λa f=>q_p 1 9 Z f (λ_=>AH (f.e Z)) λa f=>BE 2 9 underlying113 Z sizeOf84 Z f Z λa f=>Bf 3 9 0 Pl84 Z Z Z f Z λa f=>Aj 4 9 Z f Z λa f=>q_p 5 9 Z f (λ_=>AH (f.e Z)) λa f=>BE 6 9 underlying113 Z sizeOf80 Z f Z λa f=>Bf 7 9 0 Pl80 Z Z Z f Z λa f=>Bh 8 Z λai w aj m ak ak=>have ag:=od3 aj ag;have o0f1_0:=od2 aj o0f1_0;Bd hd λal am hd=>Ff f Z Z Z call51 (Wk.y1 m ag o0f1_0 am) λan ao ap w aq m ar a f=> ?_)))
   obtain⟨au,av,aw,rfl,ax,ay⟩:=ar
   refine Aa (ak ao [au,ib b0f0 4 [(.bool al.2.1)],ib b0f1 62 [av],aw] _ _ aq m (AO λaz w aA m=>have ax:=od3 aA ax;have ay:=od2 aA ay;Aa (Ar (have m:=m.fr 4;?_))))
   obtain rfl:=sj hd
   exact⟨[],trivial,f.d,_,[B7 b0 b0f0 b0f1 aa ab,au,ib b0f0 4 [(.bool al.2.1)],ib b0f1 62 [av],aw],(gt aj (gt aq aA)),m,_,_,_,_,Z,ax,ay⟩
  ·refine Ai f Z ah (Ap (Ag (A5 18 AF (by kernel_rfl) m (Aj 0 18 Z f Z λa f=>q_p 1 18 Z f (λ_=>AH (f.e Z)) λa f=>BE 2 18 underlying113 Z sizeOf98 Z f Z λa f=>Bf 3 18 0 Pl98 Z Z Z f Z λa f=>Aj 4 18 Z f Z λa f=>Bd hd λaB aC hd=>q_atR (i:=5) (listed':= #[true,true,true,true,true,true,false,false,false,false,false,false,false,false,false,false,false,false]) (C:=P2) 18 T98 af aC Z (by kernel_rfl) Z f Z Z Z Z λaD a aE f=>Fp (i:=6) (listed':= #[true,true,true,true,true,true,true,false,false,false,false,false,false,false,false,false,false,false]) (C:=P2) (c:=(iv aB.1)) 18 underlying122 Z sizeOf3 (by decide) aE Z Z (by kernel_rfl) Z f Z Z Z λaF a aG f=>B3 7 18 Pl3 aG Z f Z λa f=>Aj 8 18 Z f Z λa f=>q_p 9 18 Z f (λ_=>AH (f.e Z)) λa f=>BE 10 18 underlying113 Z sizeOf98 Z f Z λa f=>Bf 11 18 0 Pl98 Z Z Z f Z λa f=> ?_))))
   refine Aj 12 18 Z f Z λa f=>Bd hd λaH aI hd=>q_atR (i:=13) (listed':= #[true,true,true,true,true,true,true,true,true,true,true,true,true,true,false,false,false,false]) (C:=P2) 18 T98 af aI Z (by kernel_rfl) Z f Z Z Z Z λaJ a aK f=>Fp (i:=14) (listed':= #[true,true,true,true,true,true,true,true,true,true,true,true,true,true,true,false,false,false]) (C:=P2) (c:=(iv aH.2)) 18 underlying122 Z sizeOf3 (by decide) aK Z Z (by kernel_rfl) Z f Z Z Z λaL a aM f=>B3 15 18 Pl3 aM Z f Z λa f=>q_p 16 18 Z f (λ_=>Cf (f.e Z)) λa f=>q_p 17 18 Z f (λ_=>Cf (f.e Z)) λa f=>AO λaN w aO m=>have af:=RSr.mono trivial _ _ _ _ aO af;have ag:=od3 aO ag;have o0f1_0:=od2 aO o0f1_0;Ay (Ab f Z λa f=>l_o f (AH (f.e Z)) λa f=>Bu underlying113 Z sizeOf80 f Z λa f=>AG 0 1 m Pl80 f Z Z Z Z λa f=>Bd hd λaP aQ hd=> ?_)
   refine AI f Z call104 (Ow.lendCall (RSl.mono (RI.mono _)) 1 ag m Z (λaR aS m aT=>Wk.F1 m aT aQ) (λ_ G' _ _ ⟨a0,a1,a2,a3,e1,e2,o0,o1⟩=>⟨a0,a1,a2,a3,e1,e2,Ow2.free (RI.free _) G' o0,OwMq.free trivial G' o1⟩)) λaU aV aW w aX m aY a f=> ?_
   obtain⟨aZ,a4,a5,a6,rfl,rfl,a7,a8⟩:=aY
   refine have af:=RSr.mono trivial _ _ _ _ aX af;have ag:=od3 aX ag;have o0f1_0:=od2 aX o0f1_0;Ab f Z λa f=>l_o f (AE (f.e Z) Z) λa f=>l_o f (AE (f.e Z) Z) λa f=>Ac f Z λa f=>Ac f Z λa f=>Aa (Ag (A5 16 AF (by kernel_rfl) m (Aj 0 16 Z f Z λa f=>q_p 1 16 Z f (λ_=>AH (f.e Z)) λa f=>BE 2 16 underlying113 Z sizeOf80 Z f Z λa f=>Bf 3 16 2 Pl80 Z Z Z f Z λa f=>Aj 4 16 Z f Z λa f=>Bd hd λa9 ba hd=>A4 5 16 3 m ag T80 ba Z f Z Z λbb a bc f=>Bk 6 16 3 ag Ds bc ba Z f Z λbd a be f=>Aj 7 16 Z f Z λa f=>q_p 8 16 Z f (λ_=>AH (f.e Z)) λa f=>BE 9 16 underlying113 Z sizeOf80 Z f Z λa f=>Bf 10 16 2 Pl80 Z Z Z f Z λa f=>Aj 11 16 Z f Z λa f=>Bd hd λbf bg hd=>A4 12 16 3 m ag T80 bg Z f Z Z λbh a bi f=>Bk 13 16 3 ag Ds bi bg Z f Z λbj a bk f=>q_p 14 16 Z f (λ_=>Cf (f.e Z)) λa f=> ?_)))
   refine q_p 15 16 Z f (λ_=>Cf (f.e Z)) λa f=>AO λbl w bm m=>have be:=rd1 bm be;have bk:=rd1 bm bk;have a8:=OwMq.mono trivial bm a8;have af:=RSr.mono trivial _ _ _ _ bm af;have ag:=od3 bm ag;have o0f1_0:=od2 bm o0f1_0;Ay (Ab f Z λa f=>Bg underlying87 f Z Z be λa f=>l_o f (r_max2 (f.e Z) (f.e Z)) λa f=>Ab f Z λa f=>Aa (Bd hd λbn bo hd=> ?_))
   refine AL (λa w=>∃bp:LL,∃bq:Bool,∃br:LL,(bp,bq,br)=bn∧∃(bs:GH) (bt:Value) (bu:Itm) (bv:Value) (bw:Itm),GLe bl bs∧Fr a 135 []∧Mem W bs w (B7 b0 b0f0 b0f1 aa bt::ib b0f0 4 [(.bool bq)]::ib b0f1 62 [bv]::bu::bw::H)∧Ow R1 87 bs bu bt bp∧Ow2 R0 30 2 bs bw bv br) ?_ ?_
   ·refine Ao (have m:=m.fr 6;have m:=m.fr 4;have m:=m.fr 3;have m:Mem W bl w (ib b0f1 62 [v0f1_0]::a6::ac::it0f1_0::a4::B7 b0 b0f0 b0f1 aa ab::ib b0f0 4 [(.bool x0f0_0)]::H):=m.fr 6;have m:=m.fr 6;have m:=m.fr 6;have m:=m.eraseAt 6;AM (λbx a w=>∃bz:Int,∃bA:LL,∃bB:Bool,∃bC:LL,(bz,bA,bB,bC)=bx∧∃(bD:GH) (bE:Value) (bF:Itm) (bG:Value) (bH:Itm),GLe bl bD∧Fr a 135 [(0,pb b0),(1,iv x1),(4,iv aB.1),(5,iv aH.2),(7,a5),(8,bd),(9,bj),(68,(iv (if(a9.length:Int)<1 then 1 else(a9.length:Int)))),(69,iv bz)]∧Mem W bD w (B7 b0 b0f0 b0f1 aa bE::ib b0f0 4 [(.bool bB)]::ib b0f1 62 [bG]::a6::bF::bH::H)∧Ow R1 87 bD bF bE bA∧Ow2 R0 30 2 bD bH bG bC) bo ⟨_,_,_,_,Z,_,ab,ac,v0f1_0,it0f1_0,gr,f.k Z,m,ag,o0f1_0⟩ ?_)
    clear bo f m
    rintro bx bI bJ bK a w ⟨bz,bA,bB,bC,rfl,bD,bE,bF,bG,bH,bL,f,m,bM,bN⟩
    refine have be:=rd1 bL be;have bk:=rd1 bL bk;have af:=RSr.mono trivial _ _ _ _ bL af;have a8:=OwMq.mono trivial bL a8;Ae (Ah f Z Z AV λa f=>Aa (Ag ?_))
    rcases Af bJ with⟨bO,bJ⟩|⟨bO,bJ⟩
    ·refine Al f Z bO (Ap (Ag (Ao (Ae (Ab f Z λa f=>Ac f Z λa f=>Ay (Ab f Z λa f=>Bg underlying87 f Z Z bk λa f=>l_o f (r_max2 (f.e Z) (f.e Z)) λa f=>Ab f Z λa f=>Aa (Bd bJ λbP bQ bJ=> ?_)))))))
     refine AL (λa w=>∃bR:LL,∃bS:Bool,∃bT:LL,(bR,bS,bT)=bP∧∃(bU:GH) (bV:Value) (bW:Itm) (bX:Value) (bY:Itm),GLe bD bU∧Fr a 135 [(0,pb b0),(1,iv x1),(4,iv aB.1),(5,iv aH.2),(7,a5),(8,bd),(9,bj),(68,(iv (if(a9.length:Int)<1 then 1 else(a9.length:Int)))),(69,iv bz)]∧Mem W bU w (B7 b0 b0f0 b0f1 aa bV::ib b0f0 4 [(.bool bS)]::ib b0f1 62 [bX]::a6::bW::bY::H)∧Ow R1 87 bU bW bV bR∧Ow2 R0 30 2 bU bY bX bT) ?_ ?_
     ·refine Ao (AM (λbZ a w=>∃b1:Int,∃b2:LL,∃b3:Bool,∃b4:LL,(b1,b2,b3,b4)=bZ∧∃(b5:GH) (b6:Value) (b7:Itm) (b8:Value) (b9:Itm),GLe bD b5∧Fr a 135 [(0,pb b0),(1,iv x1),(4,iv aB.1),(5,iv aH.2),(7,a5),(8,bd),(9,bj),(10,iv bz),(68,(iv (if(a9.length:Int)<1 then 1 else(a9.length:Int)))),(69,iv bz),(74,(iv (if(bf.length:Int)<1 then 1 else(bf.length:Int)))),(75,iv b1)]∧Mem W b5 w (B7 b0 b0f0 b0f1 aa b6::ib b0f0 4 [(.bool b3)]::ib b0f1 62 [b8]::a6::b7::b9::H)∧Ow R1 87 b5 b7 b6 b2∧Ow2 R0 30 2 b5 b9 b8 b4) bQ ⟨_,_,_,_,Z,_,bE,bF,bG,bH,gr,f.k Z,m,bM,bN⟩ ?_)
      clear bQ f m
      rintro bZ ca cb cc a w ⟨b1,b2,b3,b4,rfl,b5,b6,b7,b8,b9,cd,f,m,ce,cf⟩
      refine have be:=rd1 cd be;have bk:=rd1 cd bk;have af:=RSr.mono trivial _ _ _ _ cd af;have a8:=OwMq.mono trivial cd a8;Ae (Ah f Z Z AV λa f=>Aa (Ag ?_))
      rcases Af cb with⟨cg,cb⟩|⟨cg,cb⟩
      ·refine Al f Z cg (Ap (Ag (Ao (Ae (Ab f Z λa f=>Ac f Z λa f=>Aa (Ag (Ag (A5 27 AF (by kernel_rfl) m (Aj 0 27 Z f Z λa f=>Eo (i:=1) 27 underlying87 be Z (by kernel_rfl) Z f Z Z Z λa f=>q_p 2 27 Z f (λ_=>A8 (f.e Z) (f.e Z) Ci) λa f=>Aj 3 27 Z f Z λa f=> ?_)))))))))
       refine CM (fuel':=19) (listed':= #[true,true,true,true,true,true,true,true,false,false,false,false,false,false,false,false,false,false,false,false,false,false,false,false,false,false,false]) (λa=>Fr a 135 [(0,pb b0),(1,iv x1),(4,iv aB.1),(5,iv aH.2),(7,a5),(8,bd),(9,bj),(10,iv bz),(11,iv b1),(68,(iv (if(a9.length:Int)<1 then 1 else(a9.length:Int)))),(69,iv bz),(74,(iv (if(bf.length:Int)<1 then 1 else(bf.length:Int)))),(75,iv b1),(78,bd),(79,(iv (a9.length:Int))),(80,(.bool (decide ((0:Int)<(a9.length:Int))))),(81,(.bool (decide ((0:Int)<(a9.length:Int))))),(85,(.bool ((decide ((0:Int)<(a9.length:Int)))&&(decide ((0:Int)<(bf.length:Int))))))]) ?_ ?_
       ·intro a f
        refine Aj 8 27 Z f Z λa f=>Bd cb λch ci cb=>CM (fuel':=0) (listed':= #[true,true,true,true,true,true,true,true,true,true,true,true,true,true,true,true,true,true,true,true,true,true,true,true,true,true,true]) (λa=>Fr a 135 [(0,pb b0),(1,iv x1),(4,iv aB.1),(5,iv aH.2),(7,a5),(8,bd),(9,bj),(10,iv bz),(11,iv b1),(68,(iv (if(a9.length:Int)<1 then 1 else(a9.length:Int)))),(69,iv bz),(74,(iv (if(bf.length:Int)<1 then 1 else(bf.length:Int)))),(75,iv b1),(78,bd),(79,(iv (a9.length:Int))),(80,(.bool (decide ((0:Int)<(a9.length:Int))))),(81,(.bool (decide ((0:Int)<(a9.length:Int))))),(85,(.bool ((decide ((0:Int)<(a9.length:Int)))&&(decide ((0:Int)<(bf.length:Int)))))),(86,(.bool ((decide ((0:Int)<(a9.length:Int)))&&(decide ((0:Int)<(bf.length:Int)))))),(104,(.bool ch))]) ?_ ?_
        ·intro a f
         refine AO λcj w ck m=>have be:=rd1 ck be;have bk:=rd1 ck bk;have af:=RSr.mono trivial _ _ _ _ ck af;have a8:=OwMq.mono trivial ck a8;have ce:=od3 ck ce;have cf:=od2 ck cf;Aa ?_
         rcases Af cb with⟨cl,cb⟩|⟨cl,cb⟩
         ·refine Al f Z cl (AK Z (Aq (Ah f Z Z Ax λa f=>Ab f Z λa f=>Aa ?_)))
          obtain rfl:=sj cb
          exact⟨_,Z,_,_,_,_,Z,_,b6,b7,b8,b9,(gt cd ck),f.k Z,m,ce,cf⟩
         ·refine Ai f Z cl (Ap (Ae (Ab f Z λa f=>Ab f Z λa f=>Ab f Z λa f=>Ab f Z λa f=>have m:=m.fr 5;have m:=m.fr 3;have m:=m.fr 3;have m:Mem W cj w (b7::ib b0f0 4 [(.bool b3)]::ib b0f1 62 [b8]::b9::B7 b0 b0f0 b0f1 aa b6::a6::H):=m.fr 5;have m:=m.fr 4;Bd cb λcm cn cb=>AI f Z call105 (Wk.d0 m af ce cf cn) λco cp cq w cr m cs a f=> ?_)))
          obtain⟨ct,cu,cv,cw,rfl,cx,cy⟩:=cs
          refine have be:=rd1 cr be;have bk:=rd1 cr bk;have a8:=OwMq.mono trivial cr a8;have af:=RSr.mono trivial _ _ _ _ cr af;Ay (Ab f Z λa f=>Ab f Z λa f=>Ab f Z λa f=>Ab f Z λa f=>Bd cb λcz cA cb=>AI f Z call105 (Wk.d0 m af cx cy cA) λcB cC cD w cE m cF a f=> ?_)
          obtain⟨cG,cH,cI,cJ,rfl,cK,cL⟩:=cF
          refine have be:=rd1 cE be;have bk:=rd1 cE bk;have a8:=OwMq.mono trivial cE a8;have af:=RSr.mono trivial _ _ _ _ cE af;Ay (Ab f Z λa f=>Ab f Z λa f=>Ah f Z Z Ax λa f=>Bd cb λcM cN cb=>AI f Z call87 (ih m af cK cL cN) λcO cP cQ w cR m cS a f=> ?_)
          obtain⟨cT,cU,cV,cW,rfl,cX,cY⟩:=cS
          refine have be:=rd1 cR be;have bk:=rd1 cR bk;have a8:=OwMq.mono trivial cR a8;Aa (Cw AF m (p_p 9 Z f (λ_=>BB (f.e Z)) λa f=>p_p 11 Z f (λ_=>BB (f.e Z)) λa f=>Cu 2560013 11 (by kernel_rfl) Z (Aj 0 2560013 Z f Z λa f=>q_p 1 2560013 Z f (λ_=>AH (f.e Z)) λa f=>BE 2 2560013 underlying113 Z sizeOf80 Z f Z λa f=>Bf 3 2560013 0 Pl80 Z Z Z f Z λa f=>Aj 4 2560013 Z f Z λa f=>Aj 5 2560013 Z f Z λa f=>q_p 6 2560013 Z f (λ_=>AH (f.e Z)) λa f=>BE 7 2560013 underlying113 Z sizeOf80 Z f Z λa f=>Bf 8 2560013 0 Pl80 Z Z Z f Z λa f=>Aj 10 2560013 Z f Z λa f=>Bd cb λcZ c0 cb=>A4 12 2560013 1 m cX T80 c0 Z f Z Z λc1 a c2 f=>AO λc3 w c4 m=>have be:=rd1 c4 be;have bk:=rd1 c4 bk;have cX:=od3 c4 cX;have cY:=od2 c4 cY;have a8:=OwMq.mono trivial c4 a8;AR 1 m cX Z sizeOf87 f Z Z c2 c0 be.cells be.one1 be λc5 w m c6=> ?_)))
          refine Bd cb λc7 c8 cb=>Bq 1 m c6 Z T80 f Z Z Z c8 λc9 a da f=>AR 1 m c6 Z sizeOf87 f Z Z da c8 bk.cells bk.one1 bk λdb w m dc=>Aa (Aq (Ah f Z Z Ax λa f=>Ab f Z λa f=>Aa (have m:=m.fr 5;have m:=m.fr 4;have m:=m.fr 4;have m:=m.fr 3;?_)))
          obtain rfl:=sj cb
          exact⟨_,Z,_,_,_,_,Z,_,cT,db,cV,cW,(gt cd (gt ck (gt cr (gt cE (gt cR c4))))),f.k Z,m,dc,cY⟩
        ·intro dd
         rcases Af ci with⟨de,ci⟩|⟨de,ci⟩
         ·refine Aj (hw:=wo f de) 9 27 Z f Z λa f=>Aj (hw:=wo f de) 10 27 Z f Z λa f=>Aj (hw:=wo f de) 11 27 Z f Z λa f=>Bd ci λdf dg ci=>Cd (hw:=wo f de) 12 27 T87 be dg Z f Z Z λdh di a dj dk f=> ?_
          subst dk
          refine B3 (hw:=wo f de) 13 27 Pl3 dj Z f Z λa f=>Aj (hw:=wo f de) 14 27 Z f Z λa f=> ?_
          have dl:∀w,(Instr.build 122 #[(0,iv df),(1,iv aB.1)]).run prog w= .ok (.agg #[iv df,iv aB.1]) w:=by intro w;simp[Instr.build,Instr.fill,Bb,A6,AT,A2,AQ,Bc,A7]
          refine q_p (hw:=wo f de) 15 27 Z f (λ_=>r_buildF f Z dl) λa f=>q_lookMq0 (i:=16) (listed':= #[true,true,true,true,true,true,true,true,true,true,true,true,true,true,true,true,true,false,false,false,false,false,false,false,false,false,false]) (ky:=(df,aB.1)) 27 Mk122 3 a8 Z underlying126 zeroValue3 Z (by kernel_rfl) Z f (BD f Z Z Z de) Z Z Z λa f=>Aj (hw:=wo f de) 17 27 Z f Z λa f=>Aj (hw:=wo f de) 18 27 Z f Z λa f=>Aj (hw:=wo f de) 19 27 Z f Z λa f=>Bd ci λdm dn ci=>Cd (hw:=wo f de) 20 27 T87 bk dn Z f Z Z λdp dq a dr ds f=> ?_
          subst ds
          refine B3 (hw:=wo f de) 21 27 Pl3 dr Z f Z λa f=>Aj (hw:=wo f de) 22 27 Z f Z λa f=> ?_
          have dt:∀w,(Instr.build 122 #[(0,iv dm),(1,iv aH.2)]).run prog w= .ok (.agg #[iv dm,iv aH.2]) w:=by intro w;simp[Instr.build,Instr.fill,Bb,A6,AT,A2,AQ,Bc,A7]
          refine q_p (hw:=wo f de) 23 27 Z f (λ_=>r_buildF f Z dt) λa f=>q_lookMq0 (i:=24) (listed':= #[true,true,true,true,true,true,true,true,true,true,true,true,true,true,true,true,true,true,true,true,true,true,true,true,true,false,false]) (ky:=(dm,aH.2)) 27 Mk122 3 a8 Z underlying126 zeroValue3 Z (by kernel_rfl) Z f (BD f Z Z Z de) Z Z Z λa f=>q_p (hw:=wo f de) 25 27 Z f (λ_=>A8 (f.e Z) (f.e Z) Dc) λa f=>q_p 26 27 Z f (λ_=>AY (f.e Z) de (f.e Z)) λa f=> ?_
          obtain rfl:=sj ci
          exact dd _ (f.k Z)
         ·refine AD 9 27 Z f de λa f=>AD 10 27 Z f de λa f=>AD 11 27 Z f de λa f=>AD 12 27 Z f de λa f=>AD 13 27 Z f de λa f=>AD 14 27 Z f de λa f=>AD 15 27 Z f de λa f=>AD 16 27 Z f de λa f=>AD 17 27 Z f de λa f=>AD 18 27 Z f de λa f=>AD 19 27 Z f de λa f=>AD 20 27 Z f de λa f=>AD 21 27 Z f de λa f=>AD 22 27 Z f de λa f=>AD 23 27 Z f de λa f=>AD 24 27 Z f de λa f=>AD 25 27 Z f de λa f=>q_p 26 27 Z f (λ_=>AX (f.e Z) de (f.e Z)) λa f=> ?_
          obtain rfl:=sj ci
          exact dd _ (f.k Z)
       ·intro du
        rcases Bool.eq_false_or_eq_true (decide ((0:Int)<(a9.length:Int))) with dv|dv
        ·exact Aj (hw:=wo f dv) 4 27 Z f Z λa f=>Eo (i:=5) 27 underlying87 bk Z (by kernel_rfl) Z f (BD f Z Z Z dv) Z Z λa f=>q_p (hw:=wo f dv) 6 27 Z f (λ_=>A8 (f.e Z) (f.e Z) Ci) λa f=>q_p 7 27 Z f (λ_=>AY (f.e Z) dv (f.e Z)) λa f=>du _ (f.weak ⟨Z,Z,Z,Z,Z,Z,Z,Z,Z,Z,Z,Z,Z,Z,Z,Z,Z,by rw[dv];rfl,trivial⟩)
        ·exact AD 4 27 Z f dv λa f=>AD 5 27 Z f dv λa f=>AD 6 27 Z f dv λa f=>q_p 7 27 Z f (λ_=>AX (f.e Z) dv (f.e Z)) λa f=>du _ (f.weak ⟨Z,Z,Z,Z,Z,Z,Z,Z,Z,Z,Z,Z,Z,Z,Z,Z,Z,by rw[dv];rfl,trivial⟩)
      ·refine Ai f Z cg (AK Z ?_)
       obtain rfl:=sj cb
       obtain rfl:=cc _ rfl
       exact⟨_,_,_,Z,_,b6,b7,b8,b9,cd,f.k Z,m,ce,cf⟩
     ·rintro a w ⟨bR,bS,bT,rfl,bU,bV,bW,bX,bY,dw,f,m,dx,dy⟩
      refine have a8:=OwMq.mono trivial dw a8;Aq (Ah f Z Z Ax λa f=>Ab f Z λa f=>Aa ?_)
      obtain rfl:=sj bJ
      exact⟨_,Z,_,_,_,_,Z,_,bV,bW,bX,bY,(gt bL dw),f.k Z,m,dx,dy⟩
    ·refine Ai f Z bO (AK Z (have m:=m.fr 5;have m:=m.fr 5;have m:=m.fr 4;have m:Mem W bD w (ib b0f0 4 [(.bool bB)]::ib b0f1 62 [bG]::bF::bH::B7 b0 b0f0 b0f1 aa bE::a6::H):=m.fr 4;have m:=m.fr 4;have m:=m.eraseAt 5;?_))
     obtain rfl:=sj bJ
     obtain rfl:=bK _ rfl
     exact⟨_,_,_,Z,_,bE,bF,bG,bH,bL,f.weak trivial,m,bM,bN⟩
   ·rintro a w ⟨bp,bq,br,rfl,bs,bt,bu,bv,bw,dz,f,m,dA,dB⟩
    refine have m:=m.fr 3;have m:=m.fr 1;?_
    obtain rfl:=sj hd
    exact⟨[],trivial,f.d,_,[B7 b0 b0f0 b0f1 aa bt,bu,ib b0f0 4 [(.bool bq)],ib b0f1 62 [bv],bw],(gt aO (gt aX (gt bm dz))),m,_,_,_,_,Z,dA,dB⟩
theorem Wk.y {b0:Nat}{aa ab:Value}{ac:Itm}{b0f0 b0f1:Nat}{v0f1_0:Value}{it0f1_0:Itm}{ad:(List (Int×Int))}{ae:LL}{x0f0_0:Bool}{x0f1_0:LL}{x1:Int}(m:Mem W G w (B7 b0 b0f0 b0f1 aa ab::ac::ib b0f0 4 [(.bool x0f0_0)]::ib b0f1 62 [v0f1_0]::it0f1_0::H))(af:RSr P2 G aa ad)(ag:Ow R1 87 G ac ab ae)(o0f1_0:Ow2 R0 30 2 G it0f1_0 v0f1_0 x0f1_0){y:(LL)×Bool×(LL)}(hd:D.y ad ae x0f0_0 x0f1_0 x1=some y):
  Calls prog 87 #[pb b0,iv x1] w (Res W G H (λG' Ho _=>∃r0:Value,∃i0:Itm,∃r2:Value,∃i2:Itm,Ho=[B7 b0 b0f0 b0f1 aa r0,i0,ib b0f0 4 [(.bool y.2.1)],ib b0f1 62 [r2],i2]∧Ow R1 87 G' i0 r0 y.1∧Ow2 R0 30 2 G' i2 r2 y.2.2)):=by
 exact Wk.w0 BT m af ag o0f1_0 hd
theorem Wk.W1 {v0:Value}{b1c0 b1c1:Nat}{aa:Value}{ab:Itm}{x0:LI}{ac:Bool}{ad:LL}(hW:Cs W)(m:Mem W G w (ib b1c0 4 [(.bool ac)]::ib b1c1 62 [aa]::ab::H))(h0:RSl (RI .u32) G v0 x0)(ae:Ow2 R0 30 2 G ab aa ad){y:Bool×(LL)}(hd:D.W1 x0 ac ad=some y):
  Calls prog 50 #[v0,Fw 51 #[(pb b1c0),(pb b1c1)]] w (Res W G H (λG' Ho _=>∃r0:Value,∃i0:Itm,Ho=[ib b1c0 4 [(.bool y.1)],ib b1c1 62 [r0],i0]∧Ow2 R0 30 2 G' i0 r0 y.2)):=by
 refine Au (args:=[v0,Fw 51 #[(pb b1c0),(pb b1c1)]]) (N:=15) [] func50 Z Z (lb Z) Z λa f=> ?_
 unfold D.W1 at hd
 refine Ag (Bd hd λaf ag hd=> ?_)
 refine AL (λa w=>∃ah:List (Int×Int),∃ai:LL,(ah,ai)=af∧∃(aj:GH) (ak:Nat) (al:Value) (am:Itm) (an:Value) (ao:Itm),GLe G aj∧Fr a 15 [(4,pb ak)]∧Mem W aj w (ib b1c0 4 [(.bool ac)]::ib b1c1 62 [aa]::B7 ak b1c0 b1c1 al an::am::ao::ab::H)∧OwR P2 122 aj am al ah∧Ow R1 87 aj ao an ai) ?_ ?_
 ·refine A5 6 AF (by kernel_rfl) m (Aj 0 6 Z f Z λa f=>Aj 2 6 Z f Z λa f=>Eo (i:=3) 6 underlying51 h0 Z (by kernel_rfl) Z f Z Z Z λa f=>Aj 5 6 Z f Z λa f=>CD (i:=1) (j:=4) (l1:= #[true,true,true,true,false,true,false,false,false]) (l2:= #[true,false,true,true,true,true,false,false,false]) Z Z (by kernel_rfl) Z Z ?_ ?_)
  ·intro ap w aq m ar ar
   refine have h0:=rd1 aq h0;Bd ag λau av ag=>BP f Z call86 (Wk.X0 hW m h0 av) λaw ax ay w az m aA a f=>Aa (ar ay [ax] _ _ az m (Bh 4 Z λaB w aC m aD aD=>have aA:=OwR.mono trivial aC aA;Bd ag λaE aF ag=>Fb (R:=R1) m T80 Z (by decide) (RSl.nil R0 aB) f Z Z Z aF λaG aH w a m aI f=>Aa (aD aB [aG,ax] _ _ gr m (AO λaJ w aK m=>have aI:=od3 aK aI;have aA:=OwR.mono trivial aK aA;?_))))
   have aL:∀w,(Instr.build 113 #[(0,aw),(1,aH),(2,Fw 51 #[(pb b1c0),(pb b1c1)])]).run prog w= .ok (.agg #[aw,aH,Fw 51 #[(pb b1c0),(pb b1c1)]]) w:=by intro w;simp[Instr.build,Instr.fill,(OwR.cells 1 m aA rfl),(Ow.cells 0 m aI rfl),Bb,A6,AT,A2,AQ,Bc,A7]
   refine Bv f Z Z aL λa f=>Bz (cs:=[aw,aH,Fw 51 #[(pb b1c0),(pb b1c1)]]) m f Z Z Z λaM w a m f=>Ac f Z λa f=>Aa (have m:=m.fr 2;have m:=m.fr 1;have m:=m.fr 4;have m:=m.fr 4;?_)
   obtain rfl:=sj ag
   exact⟨_,_,Z,_,aM,aw,ax,aH,aG,(gt aq (gt az (gt aC aK))),f.k Z,m,aA,aI⟩
  ·intro aB w aC m aD aD
   refine Bd ag λau av ag=>Bd ag λaE aF ag=>have h0:=rd1 aC h0;Fb (R:=R1) m T80 Z (by decide) (RSl.nil R0 aB) f Z Z Z aF λaG aH w a m aI f=>Aa (aD aB [aG] _ _ gr m (Bh 1 Z λap w aq m ar ar=>have h0:=rd1 aq h0;have aI:=od3 aq aI;BP f Z call86 (Wk.X0 hW m h0 av) λaw ax ay w az m aA a f=>have aI:=od3 az aI;Aa (ar ay [ax,aG] _ _ az m (AO λaJ w aK m=>have aA:=OwR.mono trivial aK aA;have aI:=od3 aK aI;?_))))
   have aL:∀w,(Instr.build 113 #[(0,aw),(1,aH),(2,Fw 51 #[(pb b1c0),(pb b1c1)])]).run prog w= .ok (.agg #[aw,aH,Fw 51 #[(pb b1c0),(pb b1c1)]]) w:=by intro w;simp[Instr.build,Instr.fill,(OwR.cells 0 m aA rfl),(Ow.cells 1 m aI rfl),Bb,A6,AT,A2,AQ,Bc,A7]
   refine Bv f Z Z aL λa f=>Bz (cs:=[aw,aH,Fw 51 #[(pb b1c0),(pb b1c1)]]) m f Z Z Z λaM w a m f=>Ac f Z λa f=>Aa (have m:=m.fr 4;have m:=m.fr 4;?_)
   obtain rfl:=sj ag
   exact⟨_,_,Z,_,aM,aw,ax,aH,aG,(gt aC (gt aq (gt az aK))),f.k Z,m,aA,aI⟩
 ·rintro a w ⟨ah,ai,rfl,aj,ak,al,am,an,ao,aN,f,m,aO,aP⟩
  refine have ae:=od2 aN ae;Aq (Ab f Z λa f=>have m:=m.fr 3;?_)
  obtain⟨aQ,aR,m,aS⟩:=OwR.stamp trivial aO m
  refine have aP:=od3 aR aP;have ae:=od2 aR ae;have m:=m.fr 3;have m:=m.fr 3;Bd hd λaT aU hd=>AI f Z call87 (Wk.y m aS aP ae aU) λaV aW aX w aY m aZ a f=> ?_
  obtain⟨a0,a1,a2,a3,rfl,a4,a5⟩:=aZ
  refine Aa (have m:=m.fr 4;have m:=m.fr 4;have m:=m.fr 4;have m:Mem W aW w (a1::ib b1c0 4 [(.bool aT.2.1)]::ib b1c1 62 [a2]::a3::B7 ak b1c0 b1c1 al a0::H):=m.fr 4;have m:=m.fr 3;have m:=m.fr 3;have m:=m.fr 3;have m:Mem W aW w (ib b1c0 4 [(.bool aT.2.1)]::ib b1c1 62 [a2]::a3::a1::H):=m.eraseAt 4;have m:=m.eraseAt 3;?_)
  obtain rfl:=sj hd
  exact⟨[],trivial,f.d,_,[ib b1c0 4 [(.bool aT.2.1)],ib b1c1 62 [a2],a3],(gt aN (gt aR aY)),m,_,_,Z,a5⟩
theorem Wk.L {aa:Value}{ab:LL}(hW:Cs W)(m:Mem W G w (H))(ac:R2 G aa ab){y:(LL)×Bool}(hd:D.L ab=some y):
  Calls prog 32 #[(.agg #[aa])] w (Res W G H (λG' Ho v=>∃r0:Value,∃i0:Itm,Ho=[i0]∧v= .tuple #[(.agg #[r0]),(.bool y.2)]∧Ow2 R0 30 2 G' i0 r0 y.1)):=by
 refine Au (args:=[(.agg #[aa])]) (N:=17) [.cell 2 62,.tmp 3] func32 Z Z (lb Z) Z λa f=> ?_
 unfold D.L at hd
 refine Ae (Bz (cs:=[aa]) m f Z Z Z λad w a m f=>AP (cs:=[sn]) zeroValue62 m f Z Z λae w a m f=>Ac f Z λa f=>Aa (Ag (Ae (AA 1 0 (ds:=[aa]) m AJ f Z Z Z Z Z λa f=>Bd hd λaf ag hd=>Bj f Z call43 (Wk.p0 m ac ag) λah w ai m a f=>have ac:=rd2 ai ac;l_o f (BN (f.e Z)) λa f=>Aa ?_))))
 rcases Af hd with⟨aj,hd⟩|⟨aj,hd⟩
 ·refine Al f Z aj (Ae ?_)
  have ak:∀w,(Instr.build 62 #[]).run prog w= .ok (.agg #[sn]) w:=by intro w;simp[Instr.build,Instr.fill,Bb,A6,AT,A2,AQ,Bc,A7]
  refine Bv f Z Z ak λa f=>Am 0 0 (ds:=[sn]) m sizeOf62 f Z Z Z (Ak Z As) Z (lb Z) Z λw m=>Ac f Z λa f=>Aa (Ar ?_)
  obtain⟨al,m,am⟩:=Ow2.nil R0 30 2 m
  refine have an:=Bi (P:=prog) 1 m Ag62 f (s:=2) rfl rfl rfl;have m:=m.eraseAt 2;have m:=m.eraseAt 1;?_
  obtain rfl:=sj hd
  exact⟨[(.agg #[sn]),(.bool false)],⟨an,f.get _ _ Z,trivial⟩,f.d,_,[al],ai,m,_,_,Z,Z,am⟩
 ·refine Ai f Z aj (Ap (Ae ?_))
  have ao:∀w,(Instr.build 62 #[]).run prog w= .ok (.agg #[sn]) w:=by intro w;simp[Instr.build,Instr.fill,Bb,A6,AT,A2,AQ,Bc,A7]
  refine Bv f Z Z ao λa f=>AP (cs:=[sn]) zeroValue62 m f Z Z λap w a m f=>AP (cs:=[(.bool false)]) zeroValue4 m f Z Z λaq w a m f=>Am 1 0 (ds:=[sn]) m sizeOf62 f Z Z Z (Ak Z As) Z (lb Z) Z λw m=>Am 0 0 (ds:=[(.bool false)]) m sizeOf4 f Z Z Z (Ak Z As) Z (lb Z) Z λw m=>Ay (AA 3 0 (ds:=[aa]) m AJ f Z Z Z Z Z λa f=>Bd hd λar au hd=>BP f Z call30 (Wk.J m ac au) λav aw ax w ay m az a f=>En f Z Z Z λa f=> ?_)
  obtain⟨aA,aB,m,aC⟩:=Ow.stamp (RI.mono _) az m
  obtain⟨aD,m,aE⟩:=Ow2.nil R0 30 2 m
  refine have m:=m.fr 2;have m:=m.fr 2;Bd hd λaF aG hd=>AI f Z call50 (Wk.W1 hW m aC aE aG) λaH aI aJ w aK m aL a f=> ?_
  obtain⟨aM,aN,rfl,aO⟩:=aL
  refine Aa (Ag (have m:=m.fr 3;DY [ib ae 62 [sn]] (ib aq 4 [(.bool aF.1)]::ib ap 62 [aM]::aN::ib ad 26 [aa]::H) 3 AF (by kernel_rfl) m (Cg (i:=0) (ds:=[aM]) 3 1 Ag62 Z Z Z Z (by kernel_rfl) Z f Z Z Z λa f=>Bf 1 3 0 Pl4 Z Z Z f Z λa f=>Bh 2 Z λaP w aQ m aR aR=>have aO:=od2 aQ aO;Am 0 0 (ds:=[aM]) m sizeOf62 f Z Z Z (Ak (Ow2.one1 3 m aO Z) As) Z (lb Z) Z λw m=>Aa (aR aP [ib ae 62 [aM]] _ _ gr m (AO λaS w aT m=>have aO:=od2 aT aO;Ac f Z λa f=>Aa (Ar (have aU:=Bi (P:=prog) 0 m Ag62 f (s:=2) rfl rfl rfl;have m:=m.fr 3;have m:=m.eraseAt 4;have m:=m.eraseAt 3;have m:Mem W aS w (aN::ib ae 62 [aM]::H):=m.eraseAt 2;have m:=m.eraseAt 1;?_)))))))
  obtain rfl:=sj hd
  exact⟨[(.agg #[aM]),(.bool aF.1)],⟨aU,f.get _ _ Z,trivial⟩,f.d,_,[aN],(gt ai (gt ay (gt aB (gt aK (gt aQ aT))))),m,_,_,Z,Z,aO⟩
theorem Wk.O0 {aa:Value}{ab:LL}(hW:Cs W)(m:Mem W G w (H))(ac:R2 G aa ab){y:Bool}(hd:D.O0 ab=some y):
  Calls prog 14 #[(.agg #[aa])] w (Res W G H (λ_ Ho v=>Ho=[]∧v=(.bool y))):=by
 refine Au (args:=[(.agg #[aa])]) (N:=11) [.tmp 2] func14 Z Z (lb Z) Z λa f=> ?_
 unfold D.O0 at hd
 refine Ae (Bz (cs:=[aa]) m f Z Z Z λad w a m f=>Ac f Z λa f=>Ay (AA 0 0 (ds:=[aa]) m AJ f Z Z Z Z Z λa f=>Bd hd λae af hd=>AI f Z call32 (Wk.L hW m ac af) λag ah ai w aj m ak a f=> ?_))
 obtain⟨al,am,rfl,rfl,an⟩:=ak
 refine Ab f Z λa f=>l_o f (AE (f.e Z) Z) λa f=>l_o f (AE (f.e Z) Z) λa f=>AP (cs:=[sn]) zeroValue62 m f Z Z λao w a m f=>Am 0 0 (ds:=[al]) m sizeOf62 f Z Z Z (Ak (Ow2.one1 1 m an Z) As) Z (lb Z) Z λw m=>Ac f Z λa f=>Ay (Ab f Z λa f=>Ac f Z λa f=>Aa (Ar (have m:=m.dp 3;?_)))
 obtain rfl:=sj hd
 exact⟨[(.bool ae.2)],f.g Z,f.d,_,[],aj,m,Z,Z⟩
end Go.Proofs.YtijemnhleooagaaGreatDoor

set_option maxRecDepth 100000
namespace Go.Proofs.YtijemnhleooagaaGreatDoor
open Go Go.Sx
open Go.Proofs.Tryz Go.Proofs.YtijemnhleooagaaGreatDoor.Tryz IntKind
variable {W w : World} {G : GH} {H : List Itm}
set_option maxHeartbeats 1000000 in
theorem Wk.T1 {v0:Value}{x0:LI}(hW:Cs W)(m:Mem W G w (H))(h0:RSl (RI .u8) G v0 x0){y:Bool}(hd:D.T1 x0=some y):
  Calls prog 3 #[v0] w (Res W G H (λ_ Ho v=>Ho=[]∧v=(.bool y))):=by
 refine Au (args:=[v0]) (N:=124) [.tmp 2] func3 Z Z (lb Z) Z λa f=> ?_
 unfold D.T1 at hd
 refine Ae (Ac f Z λa f=>Aa (Ag (Ae (Ab f Z λa f=>Bd hd λaa ab hd=>Bj f Z call4 (Wk.O1 m h0 ab) λac w ad m a f=>have h0:=rd1 ad h0;Aa ?_))))
 rcases Af hd with⟨ae,hd⟩|⟨ae,hd⟩
 ·refine Al f Z ae (Ae (Ac f Z λa f=>Aa (Ar ?_)))
  obtain rfl:=sj hd
  exact⟨[(.bool true)],f.g Z,f.d,_,[],ad,m,Z,Z⟩
 ·refine Ai f Z ae (Ap (Ae (Ab f Z λa f=>Bd hd λaf ag hd=>AI f Z call5 (Wk.d1 m h0 ag) λah ai aj w ak m al a f=> ?_)))
  obtain⟨am,rfl,rfl,an⟩:=al
  refine have h0:=rd1 ak h0;AP (cs:=[sn]) zeroValue26 m f Z Z λao w a m f=>Am 0 0 (ds:=[am]) m sizeOf26 f Z Z Z (Ak an.one1 As) Z (lb Z) Z λw m=>Aa (Ag (Ae (AA 0 0 (ds:=[am]) m AJ f Z Z Z Z Z λa f=>Bd hd λap aq hd=>Bj f Z call6 (Wk.q m an aq) λar w au m a f=>have h0:=rd1 au h0;have an:=rd2 au an;l_o f (BN (f.e Z)) λa f=>Ab f Z λa f=> ?_)))
  refine BF 5 (λa w=>∃av,GLe ar av∧Mem W av w (ib ao 26 [am]::H)∧Fr a 124 [(0,v0),(3,pb ao),(18,(.agg #[am])),(19,(.bool ap)),(20,(.bool (!ap))),(21,(.bool (!ap))),(26,(.bool ((!ap)||(decide ((7:Int)≤(af.length:Int))))))]) ?_ ?_
  ·rcases Bool.eq_false_or_eq_true (!ap) with aw|aw
   ·exact AC f aw λa f=>AC f aw λa f=>AC f aw λa f=>AC f aw λa f=>l_o f (AY (f.e Z) aw (f.e Z)) λa f=>⟨_,gr,m,f.weak ⟨Z,Z,Z,Z,Z,Z,by rw[aw];rfl,trivial⟩⟩
   ·exact AB f aw (Bu underlying26 Z sizeOf24 f Z λa f=>AB f aw (AG 0 0 m BC f Z Z Z Z λa f=>AB f aw (Bg underlying24 f Z Z an λa f=>AB f aw (Ah f Z Z CC λa f=>l_o f (AX (f.e Z) aw (f.e Z)) λa f=>⟨_,gr,m,f.weak ⟨Z,Z,Z,Z,Z,Z,by rw[aw];rfl,trivial⟩⟩))))
  ·rintro a w ⟨av,ax,m,f⟩
   refine have h0:=rd1 ax h0;have an:=rd2 ax an;Aa ?_
   rcases Af hd with⟨ay,hd⟩|⟨ay,hd⟩
   ·refine Al f Z ay (Ae (Ac f Z λa f=>Aa (Ar (have m:=m.dp 1;?_))))
    obtain rfl:=sj hd
    exact⟨[(.bool true)],f.g Z,f.d,_,[],(gt ad (gt ak (gt au ax))),m,Z,Z⟩
   ·refine Ai f Z ay (Ap (Ae (AA 0 0 (ds:=[am]) m AJ f Z Z Z Z Z λa f=>Bd hd λaz aA hd=>BP f Z call7 (Wk.P1 m an aA) λaB aC aD w aE m aF a f=>have h0:=rd1 aE h0;have an:=rd2 aE an;Ac f Z λa f=>Ay (AA 1 0 (ds:=[am]) m AJ f Z Z Z Z Z λa f=>Bd hd λaG aH hd=>AI f Z call8 (Wk.E1 hW m an aH) λaI aJ aK w aL m aM a f=> ?_))))
    obtain⟨aN,aO,aP,aQ,rfl,rfl,aR,aS⟩:=aM
    refine have h0:=rd1 aL h0;have an:=rd2 aL an;have aF:=od3 aL aF;Ab f Z λa f=>l_o f (AE (f.e Z) Z) λa f=>l_o f (AE (f.e Z) Z) λa f=>AP (cs:=[iv 0,sn,sn]) zeroValue32 m f Z Z λaT w a m f=>Am 0 0 (ds:=[iv aG.1,aN,aP]) m sizeOf32 f Z Z Z (Ak Z (Ak (Ow.one1 1 m aR Z) (Ak (Ow.one1 2 m aS Z) As))) Z (lb Z) Z λw m=>Ac f Z λa f=>Ay (AA 0 0 (ds:=[iv aG.1,aN,aP]) m Ag32 f Z Z Z Z Z λa f=>have m:=m.fr 1;?_)
    obtain⟨aU,aV,m,aW⟩:=Ow.stamp (RI.mono _) aR m
    refine have h0:=rd1 aV h0;have aS:=od3 aV aS;have aF:=od3 aV aF;have an:=rd2 aV an;have m:=m.fr 1;?_
    obtain⟨aX,aY,m,aZ⟩:=Ow.stamp (RSl.mono (RI.mono _)) aS m
    refine have h0:=rd1 aY h0;have aW:=rd1 aY aW;have aF:=od3 aY aF;have an:=rd2 aY an;Bd hd λa0 a1 hd=>BP f Z call9 (Wk.f1 hW m aW aZ a1) λa2 a3 a4 w a5 m a6 a f=>have h0:=rd1 a5 h0;have aZ:=rd2 a5 aZ;have aF:=od3 a5 aF;have an:=rd2 a5 an;Ac f Z λa f=>Ay (Ac f Z λa f=>Aa (Ag (Ae (Ac f Z λa f=>Aa (Bd hd λa7 a8 hd=> ?_)))))
    refine AL (λa w=>∃a9:Int,a9=a7∧∃(ba:GH),GLe a4 ba∧Fr a 124 [(0,v0),(3,pb ao),(4,aB),(6,(.bool aG.2.2.2)),(7,a2),(8,iv a9)]∧Mem W ba w (ib ao 26 [am]::aC::a3::H)) ?_ ?_
    ·refine Ao (have m:=m.fr 2;have m:=m.fr 2;have m:=m.fr 3;AM (λbb a w=>∃bc:Int,∃bd:Int,(bc,bd)=bb∧∃(be:GH),GLe a4 be∧Fr a 124 [(0,v0),(3,pb ao),(4,aB),(5,pb aT),(6,(.bool aG.2.2.2)),(7,a2),(8,iv bc),(9,iv bd)]∧Mem W be w (ib ao 26 [am]::ib aT 32 [iv aG.1,aN,aP]::aC::a3::H)) a8 ⟨_,_,Z,_,gr,f.k Z,m⟩ ?_)
     clear a8 f m
     rintro bb bf bg bh a w ⟨bc,bd,rfl,be,bi,f,m⟩
     refine have aZ:=rd2 bi aZ;Ag (Ae (Ab f Z λa f=>Bu underlying32 Z sizeOf24 f Z λa f=>AG 1 2 m BC f Z Z Z Z λa f=>Bg underlying24 f Z Z aZ λa f=>Ah f Z Z AV λa f=>Aa ?_))
     rcases Af bg with⟨bj,bg⟩|⟨bj,bg⟩
     ·refine Al f Z bj (Ap (Ag (Ao (Aq (Ab f Z λa f=>Bu underlying32 Z sizeOf24 f Z λa f=>AG 1 2 m BC f Z Z Z Z λa f=>Ab f Z λa f=>Bd bg λbk bl bg=>BI T24 f Z Z Z aZ bl λbm bn a bo bp f=>A3 m BU f Z Z bo λa f=>Bg underlying30 f Z Z bp λa f=>Ah f Z Z Ax λa f=>Ah f Z Z Be λa f=>Ac f Z λa f=>Aa (Aq (Ab f Z λa f=>Ah f Z Z Ax λa f=>Ac f Z λa f=>Aa ?_)))))))
      obtain rfl:=sj bg
      exact⟨_,Z,_,_,Z,_,bi,f.k Z,m⟩
     ·refine Ai f Z bj (AK Z (have m:=m.fr 3;have m:=m.fr 3;have m:=m.fr 2;have m:=m.eraseAt 3;?_))
      obtain rfl:=sj bg
      obtain rfl:=bh _ rfl
      exact⟨_,Z,_,bi,f.k Z,m⟩
    ·rintro a w ⟨a9,rfl,ba,bq,f,m⟩
     refine have h0:=rd1 bq h0;have an:=rd2 bq an;have aF:=od3 bq aF;have a6:=od3 bq a6;Ag (Ae (Ab f Z λa f=>Ab f Z λa f=> ?_))
     refine BF 5 (λa w=>∃br,GLe ba br∧Mem W br w (ib ao 26 [am]::aC::a3::H)∧Fr a 124 [(0,v0),(3,pb ao),(4,aB),(6,(.bool aG.2.2.2)),(7,a2),(8,iv a9),(52,(.bool aG.2.2.2)),(53,(.bool aG.2.2.2)),(58,(.bool (aG.2.2.2&&((a0.length:Int) !=a9))))]) ?_ ?_
     ·rcases Bool.eq_false_or_eq_true aG.2.2.2 with bs|bs
      ·exact AB f bs (Ab f Z λa f=>AB f bs (BJ 2 m a6 Z underlying24 f Z Z λa f=>AB f bs (Ab f Z λa f=>AB f bs (Ah f Z Z Dc λa f=>l_o f (AY (f.e Z) bs (f.e Z)) λa f=>⟨_,gr,m,f.weak ⟨Z,Z,Z,Z,Z,Z,Z,Z,by rw[bs];rfl,trivial⟩⟩))))
      ·exact AC f bs λa f=>AC f bs λa f=>AC f bs λa f=>AC f bs λa f=>l_o f (AX (f.e Z) bs (f.e Z)) λa f=>⟨_,gr,m,f.weak ⟨Z,Z,Z,Z,Z,Z,Z,Z,by rw[bs];rfl,trivial⟩⟩
     ·rintro a w ⟨br,bt,m,f⟩
      refine have h0:=rd1 bt h0;have an:=rd2 bt an;have aF:=od3 bt aF;have a6:=od3 bt a6;Aa ?_
      rcases Af hd with⟨bu,hd⟩|⟨bu,hd⟩
      ·refine Al f Z bu (Ae (Ac f Z λa f=>Aa (Ar (have m:=m.dp 3;?_))))
       obtain rfl:=sj hd
       exact⟨[(.bool false)],f.g Z,f.d,_,[],(gt ad (gt ak (gt au (gt ax (gt aE (gt aL (gt aV (gt aY (gt a5 (gt bq bt)))))))))),m,Z,Z⟩
      ·refine Ai f Z bu (Ap (Ag (Ae (Ac f Z λa f=>Aa (Bd hd λbv bw hd=> ?_)))))
       refine AL (λa w=>∃q_262':Unit,bv= .inl q_262'∧∃(bx:GH),GLe br bx∧Fr a 124 [(0,v0),(3,pb ao),(4,aB),(6,(.bool aG.2.2.2))]∧Mem W bx w (ib ao 26 [am]::aC::H)) ?_ ?_
       ·refine Ao (AM (λbz a w=>∃bA:Int,bA=bz∧∃(bB:GH),GLe br bB∧Fr a 124 [(0,v0),(3,pb ao),(4,aB),(6,(.bool aG.2.2.2)),(7,a2),(10,iv bA)]∧Mem W bB w (ib ao 26 [am]::aC::a3::H)) bw ⟨_,Z,_,gr,f.k Z,m⟩ ?_)
        clear bw f m
        rintro bz bC bD bE a w ⟨bA,rfl,bB,bF,f,m⟩
        refine have an:=rd2 bF an;have a6:=od3 bF a6;Ag (Ae (Ab f Z λa f=>Ab f Z λa f=>BJ 2 m a6 Z underlying24 f Z Z λa f=>Ah f Z Z AV λa f=>Aa ?_))
        rcases Af bD with⟨bG,bD⟩|⟨bG,bD⟩
        ·refine Al f Z bG (Ap (Ag (Ao (Ag (A5 23 AF (by kernel_rfl) m (Aj 0 23 Z f Z λa f=>Aj 1 23 Z f Z λa f=>Bd bD λbH bI bD=>A4 2 23 2 m a6 T24 bI Z f Z Z λbJ a bK f=>Bk 3 23 2 a6 BU bK bI Z f Z λbL a bM f=>Eo (i:=4) 23 underlying30 bM Z (by kernel_rfl) Z f Z Z Z λa f=>q_p 5 23 Z f (λ_=>A8 (f.e Z) (f.e Z) Dc) λa f=>Aj 6 23 Z f Z λa f=>Bd bD λbN bO bD=>CM (fuel':=0) (listed':= #[true,true,true,true,true,true,true,true,true,true,true,true,true,true,true,true,true,true,true,true,true,true,true]) (λa=>Fr a 124 [(0,v0),(3,pb ao),(4,aB),(6,(.bool aG.2.2.2)),(7,a2),(10,iv bA),(62,(.bool (decide (bA<(a0.length:Int))))),(65,a2),(66,iv bA),(67,bJ),(68,bL),(69,(iv (bH.length:Int))),(70,(.bool ((bH.length:Int) !=2))),(71,(.bool ((bH.length:Int) !=2))),(87,(.bool bN))]) ?_ ?_))))))
         ·intro a f
          refine AO λbP w bQ m=>Aa ?_
          rcases Af bD with⟨bR,bD⟩|⟨bR,bD⟩
          ·refine Al f Z bR (Ae (Ac f Z λa f=>Aa (Ar (have m:=m.dp 3;?_))))
           obtain rfl:=sj bD
           obtain rfl:=bE _ rfl
           obtain rfl:=sj hd
           exact⟨[(.bool false)],f.g Z,f.d,_,[],(gt ad (gt ak (gt au (gt ax (gt aE (gt aL (gt aV (gt aY (gt a5 (gt bq (gt bt (gt bF bQ)))))))))))),m,Z,Z⟩
          ·refine Ai f Z bR (Ap (Aq (Ab f Z λa f=>Ah f Z Z Ax λa f=>Ac f Z λa f=>Aa ?_)))
           obtain rfl:=sj bD
           exact⟨_,Z,_,Z,_,(gt bF bQ),f.k Z,m⟩
         ·intro bS
          rcases Af bO with⟨bT,bO⟩|⟨bT,bO⟩
          ·refine AD 7 23 Z f bT λa f=>AD 8 23 Z f bT λa f=>AD 9 23 Z f bT λa f=>AD 10 23 Z f bT λa f=>AD 11 23 Z f bT λa f=>AD 12 23 Z f bT λa f=>AD 13 23 Z f bT λa f=>AD 14 23 Z f bT λa f=>AD 15 23 Z f bT λa f=>AD 16 23 Z f bT λa f=>AD 17 23 Z f bT λa f=>AD 18 23 Z f bT λa f=>AD 19 23 Z f bT λa f=>AD 20 23 Z f bT λa f=>AD 21 23 Z f bT λa f=>q_p 22 23 Z f (λ_=>AY (f.e Z) bT (f.e Z)) λa f=> ?_
           obtain rfl:=sj bO
           exact bS _ (f.k Z)
          ·refine Cg (i:=7) (ds:=[am]) 23 0 AJ Z Z Z Z (by kernel_rfl) Z f (BD f Z Z Z bT) Z Z λa f=>Aj (hw:=wo f bT) 8 23 Z f Z λa f=>Aj (hw:=wo f bT) 9 23 Z f Z λa f=>Bd bO λbU bV bO=>A4 (hw:=wo f bT) 10 23 2 m a6 T24 bV Z f Z Z λbW a bX f=>Bk (hw:=wo f bT) 11 23 2 a6 BU bX bV Z f Z λbY a bZ f=>Bd bO λb0 b1 bO=>Cd (hw:=wo f bT) 12 23 T30 bZ b1 Z f Z Z λb2 b3 a b4 b5 f=> ?_
           subst b5
           refine B3 (hw:=wo f bT) 13 23 Pl2 b4 Z f Z λa f=>Aj (hw:=wo f bT) 14 23 Z f Z λa f=>Aj (hw:=wo f bT) 15 23 Z f Z λa f=>Bd bO λb6 b7 bO=>A4 (hw:=wo f bT) 16 23 2 m a6 T24 b7 Z f Z Z λb8 a b9 f=>Bk (hw:=wo f bT) 17 23 2 a6 BU b9 b7 Z f Z λca a cb f=>Bd bO λcc cd bO=>Cd (hw:=wo f bT) 18 23 T30 cb cd Z f Z Z λce cf a cg ch f=> ?_
           subst ch
           refine B3 (hw:=wo f bT) 19 23 Pl2 cg Z f Z λa f=>Bd bO λci cj bO=>BH (i:=20) 23 Z (by kernel_rfl) Z f (BD f Z Z Z bT) Z Z call10 (λ_ _ w ck m=>Wk.E0 m (rd2 ck an) cj) λa f=>q_p (hw:=wo f bT) 21 23 Z f (λ_=>BN (f.e Z)) λa f=>q_p 22 23 Z f (λ_=>AX (f.e Z) bT (f.e Z)) λa f=> ?_
           obtain rfl:=sj bO
           exact bS _ (f.k Z)
        ·refine Ai f Z bG (AK Z (have m:=m.eraseAt 2;?_))
         obtain rfl:=sj bD
         obtain rfl:=bE _ rfl
         exact⟨_,Z,_,bF,f.k Z,m⟩
       ·rintro a w ⟨_,rfl,bx,cl,f,m⟩
        refine have h0:=rd1 cl h0;have an:=rd2 cl an;have aF:=od3 cl aF;Ag (Ae (Ab f Z λa f=>BJ 1 m aF Z underlying24 f Z Z λa f=>Ah f Z Z BA λa f=>Aa ?_))
        rcases Af hd with⟨cm,hd⟩|⟨cm,hd⟩
        ·refine Al f Z cm (Ae (Ab f Z λa f=>l_o f (BN (f.e Z)) λa f=>Ac f Z λa f=>Aa (Ar (have m:=m.dp 2;?_))))
         obtain rfl:=sj hd
         exact⟨[(.bool (!aG.2.2.2))],f.g Z,f.d,_,[],(gt ad (gt ak (gt au (gt ax (gt aE (gt aL (gt aV (gt aY (gt a5 (gt bq (gt bt cl))))))))))),m,Z,Z⟩
        ·refine Ai f Z cm (Ap (Ae (Ab f Z λa f=>Ab f Z λa f=>Bd hd λcn co hd=>AI f Z call11 (Wk.v1 m h0 co) λcp cq cr w ct m cu a f=> ?_)))
         obtain⟨cv,cw,rfl,rfl,cx⟩:=cu
         refine have an:=rd2 ct an;have aF:=od3 ct aF;Ab f Z λa f=>BJ 2 m aF Z underlying24 f Z Z λa f=>Bd hd λcy cz hd=>AI f Z call12 (Wk.Z0 m cx cz) λcA cB cC w cD m cE a f=> ?_
         obtain⟨cF,rfl,rfl,cG⟩:=cE
         refine have an:=rd2 cD an;have aF:=od3 cD aF;Bd hd λcH cI hd=>Bq 2 m aF Z T24 f Z Z Z cI λcJ a cK f=>BW 2 m aF Z BU f Z Z cK cI λcL a cM f=>Ac f Z λa f=>Aa (Ag (Bd hd λcN cO hd=> ?_))
         refine AL (λa w=>∃cP:LL,∃cQ:Bool,(cP,cQ)=cN∧∃(cR:GH) (cS:Nat) (cT:Value) (cU:Itm),GLe cB cR∧Fr a 124 [(3,pb ao),(12,pb cS),(13,(.bool cQ))]∧Mem W cR w (ib ao 26 [am]::ib cS 26 [cT]::cU::H)∧Ow R1 30 cR cU cT cP) ?_ ?_
         ·refine A5 13 AF (by kernel_rfl) m (Cg (i:=0) (ds:=[am]) 13 1 AJ Z Z Z Z (by kernel_rfl) Z f Z Z Z λa f=>Aj 1 13 Z f Z λa f=>Bd cO λcV cW cO=>Cd 2 13 T30 cM cW Z f Z Z λcX cY a cZ c0 f=> ?_)
          subst c0
          refine B3 3 13 Pl2 cZ Z f Z λa f=>Aj 4 13 Z f Z λa f=>Bd cO λc1 c2 cO=>Cd 5 13 T30 cM c2 Z f Z Z λc3 c4 a c5 c6 f=> ?_
          subst c6
          refine B3 6 13 Pl2 c5 Z f Z λa f=>CD (i:=7) (j:=11) (l1:= #[true,true,true,true,true,true,true,true,false,false,false,false,false,false]) (l2:= #[true,true,true,true,true,true,true,false,false,false,false,true,false,false]) Z Z (by kernel_rfl) Z Z ?_ ?_
          ·intro c7 w c8 m c9 c9
           refine have an:=rd2 c8 an;Bd cO λda db cO=>AI f Z call13 (Wk.U0 hW m an db) λdc dd de w df m dg a f=> ?_
           obtain⟨dh,di,rfl,rfl,dj⟩:=dg
           refine Aa (c9 dd [di] _ _ df m (Aj 8 13 Z f Z λa f=>q_p 9 13 Z f (λ_=>AE (f.e Z) Z) λa f=>q_p 10 13 Z f (λ_=>AE (f.e Z) Z) λa f=>Bh 11 Z λdk w dl m dm dm=>have dj:=od3 dl dj;AP (cs:=[sn]) zeroValue26 m f Z Z λdn w a m f=>Aa (dm dk [ib dn 26 [sn],di] _ _ gr m (Bh 12 Z λdq w dr m dt dt=>have dj:=od3 dr dj;Am 0 0 (ds:=[dh]) m sizeOf26 f Z Z Z (Ak (Ow.one1 1 m dj Z) As) Z (lb Z) Z λw m=>Aa (dt dq [ib dn 26 [dh],di] _ _ gr m (AO λdu w dv m=>have dj:=od3 dv dj;Ac f Z λa f=>Aa (have m:=m.fr 3;have m:=m.eraseAt 4;have m:=m.eraseAt 3;?_)))))))
           obtain rfl:=sj cO
           exact⟨_,_,Z,_,dn,dh,di,(gt c8 (gt df (gt dl (gt dr dv)))),f.k Z,m,dj⟩
          ·intro dk w dl m dm dm
           refine Bd cO λda db cO=>have an:=rd2 dl an;AP (cs:=[sn]) zeroValue26 m f Z Z λdn w a m f=>Aa (dm dk [ib dn 26 [sn]] _ _ gr m (Bh 7 Z λc7 w c8 m c9 c9=>have an:=rd2 c8 an;AI f Z call13 (Wk.U0 hW m an db) λdc dd de w df m dg a f=> ?_))
           obtain⟨dh,di,rfl,rfl,dj⟩:=dg
           refine Aa (c9 dd [di,ib dn 26 [sn]] _ _ df m (Aj 8 13 Z f Z λa f=>q_p 9 13 Z f (λ_=>AE (f.e Z) Z) λa f=>q_p 10 13 Z f (λ_=>AE (f.e Z) Z) λa f=>Bh 12 Z λdq w dr m dt dt=>have dj:=od3 dr dj;Am 1 0 (ds:=[dh]) m sizeOf26 f Z Z Z (Ak (Ow.one1 0 m dj Z) As) Z (lb Z) Z λw m=>Aa (dt dq [di,ib dn 26 [dh]] _ _ gr m (AO λdu w dv m=>have dj:=od3 dv dj;Ac f Z λa f=>Aa (have m:=m.fr 1;have m:=m.fr 3;have m:=m.eraseAt 4;have m:=m.eraseAt 3;?_)))))
           obtain rfl:=sj cO
           exact⟨_,_,Z,_,dn,dh,di,(gt dl (gt c8 (gt df (gt dr dv)))),f.k Z,m,dj⟩
         ·rintro a w ⟨cP,cQ,rfl,cR,cS,cT,cU,dw,f,m,dx⟩
          refine have an:=rd2 dw an;Ag (A5 13 AF (by kernel_rfl) m (Aj 0 13 Z f Z λa f=>Aj 1 13 Z f Z λa f=>Bd hd λdy dz hd=>CM (fuel':=8) (listed':= #[true,true,true,true,true,false,false,false,false,false,false,false,false]) (λa=>Fr a 124 [(3,pb ao),(12,pb cS),(13,(.bool cQ)),(112,(.bool cQ)),(113,(.bool cQ)),(116,(.bool dy))]) ?_ ?_))
          ·intro a f
           refine Aj 5 13 Z f Z λa f=>Bd hd λdA dB hd=>CM (fuel':=1) (listed':= #[true,true,true,true,true,true,true,true,true,true,true,true,false]) (λa=>Fr a 124 [(3,pb ao),(12,pb cS),(13,(.bool cQ)),(112,(.bool cQ)),(113,(.bool cQ)),(116,(.bool dy)),(117,(.bool dy)),(123,(.bool dA))]) ?_ ?_
           ·intro a f
            refine q_p 12 13 Z f (λ_=>Cf (f.e Z)) λa f=>AO λdC w dD m=>Aa (Ar (have m:=m.dp 3;?_))
            obtain rfl:=sj hd
            exact⟨[(.bool dA)],f.g Z,f.d,_,[],(gt ad (gt ak (gt au (gt ax (gt aE (gt aL (gt aV (gt aY (gt a5 (gt bq (gt bt (gt cl (gt ct (gt cD (gt dw dD))))))))))))))),m,Z,Z⟩
           ·intro dE
            rcases Af dB with⟨dF,dB⟩|⟨dF,dB⟩
            ·refine Cg (i:=6) (ds:=[cT]) 13 1 AJ Z Z Z Z (by kernel_rfl) Z f (BD f Z Z Z dF) Z Z λa f=>Bd dB λdG dH dB=>BH (i:=7) 13 Z (by kernel_rfl) Z f (BD f Z Z Z dF) Z Z call14 (λ_ _ w dI m=>(Ow.lendCallR (RSl.mono (RI.mono _)) 2 (od3 dI dx) m Z (λdJ dK m dL=>Wk.O0 hW m dL dH) (λ_ _ _ _ h=>h))) λa f=>Cg (i:=8) (ds:=[am]) 13 0 AJ Z Z Z Z (by kernel_rfl) Z f (BD f Z Z Z dF) Z Z λa f=>Bd dB λdM dN dB=>BH (i:=9) 13 Z (by kernel_rfl) Z f (BD f Z Z Z dF) Z Z call14 (λ_ _ w dO m=>Wk.O0 hW m (rd2 dO an) dN) λa f=>q_p (hw:=wo f dF) 10 13 Z f (λ_=>r_bool_eql (f.e Z) (f.e Z) underlying4) λa f=>q_p 11 13 Z f (λ_=>AY (f.e Z) dF (f.e Z)) λa f=> ?_
             obtain rfl:=sj dB
             exact dE _ (f.k Z)
            ·refine AD 6 13 Z f dF λa f=>AD 7 13 Z f dF λa f=>AD 8 13 Z f dF λa f=>AD 9 13 Z f dF λa f=>AD 10 13 Z f dF λa f=>q_p 11 13 Z f (λ_=>AX (f.e Z) dF (f.e Z)) λa f=> ?_
             obtain rfl:=sj dB
             exact dE _ (f.k Z)
          ·intro dP
           rcases Af dz with⟨dQ,dz⟩|⟨dQ,dz⟩
           ·refine Cg (i:=2) (ds:=[cT]) 13 1 AJ Z Z Z Z (by kernel_rfl) Z f (BD f Z Z Z dQ) Z Z λa f=>Bd dz λdR dS dz=>BH (i:=3) 13 Z (by kernel_rfl) Z f (BD f Z Z Z dQ) Z Z call6 (λ_ _ w dT m=>(Ow.lendCallR (RSl.mono (RI.mono _)) 2 (od3 dT dx) m Z (λdU dV m dW=>Wk.q m dW dS) (λ_ _ _ _ h=>h))) λa f=>q_p 4 13 Z f (λ_=>AY (f.e Z) dQ (f.e Z)) λa f=> ?_
            obtain rfl:=sj dz
            exact dP _ (f.k Z)
           ·refine AD 2 13 Z f dQ λa f=>AD 3 13 Z f dQ λa f=>q_p 4 13 Z f (λ_=>AX (f.e Z) dQ (f.e Z)) λa f=> ?_
            obtain rfl:=sj dz
            exact dP _ (f.k Z)
end Go.Proofs.YtijemnhleooagaaGreatDoor

namespace Go.Sx
noncomputable def CI (a b:Int):Option Int:=(D.v a b).bind λy=>some (cond y (-1) 1)
theorem ER (y:Bool):decide ((cond y (-1) 1:Int)<0)=y:=by cases y<;>rfl
theorem GK :D.l2=DG.insertionSort CI:=by
 funext x a b
 unfold D.l2 DG.insertionSort
 simp only[CI,Option.bind_assoc,bs,ER]<;>rfl
theorem ol_siftDown :D.k2=DG.siftDown CI:=by
 funext x a b c
 unfold D.k2 DG.siftDown
 simp only[CI,Option.bind_assoc,bs,ER]
 refine congrArg (Option.bind _) (funext λzz=> ?_)
 cases zz<;>rfl
theorem ol_heapSort :D.i2=DG.heapSort CI:=by
 funext x a b
 unfold D.i2 DG.heapSort
 rw[ol_siftDown]
theorem GO :D.h2=DG.breakPatterns CI:=by
 funext x a b
 unfold D.h2 DG.breakPatterns
 rfl
theorem ol_order2 :D.d2=DG.order2 CI:=by
 funext x a b c
 unfold D.d2 DG.order2
 simp only[CI,Option.bind_assoc,bs,ER]<;>rfl
theorem ol_median :D.j2=DG.median CI:=by
 funext x a b c d
 unfold D.j2 DG.median
 rw[ol_order2]
theorem Gz :D.e2=DG.medianAdjacent CI:=by
 funext x a b
 unfold D.e2 DG.medianAdjacent
 rw[ol_median]
theorem ol_choosePivot :D.n2=DG.choosePivot CI:=by
 funext x a b
 unfold D.n2 DG.choosePivot
 rw[ol_median,Gz]
theorem GT :D.g2=DG.reverseRange CI:=by
 funext x a b
 unfold D.g2 DG.reverseRange
 rfl
theorem EN :D.m2=DG.partialInsertionSort CI:=by
 funext x a b
 unfold D.m2 DG.partialInsertionSort
 simp only[CI,Option.bind_assoc,bs,ER]
 refine congrArg (Option.bind _) (funext λzz=> ?_)
 cases zz<;>rfl
theorem Gw :D.f2=DG.partitionEqual CI:=by
 funext x a b c
 unfold D.f2 DG.partitionEqual
 simp only[CI,Option.bind_assoc,bs,ER]<;>rfl
theorem ol_partition :D.o2=DG.partition CI:=by
 funext x a b c
 unfold D.o2 DG.partition
 simp only[CI,Option.bind_assoc,bs,ER]<;>rfl
theorem ol_pdqsort :∀(n:Nat) x a b c,D.r1 n x a b c=DG.pdqsortR CI n x a b c
 |0,_,_,_,_=>rfl
 |n+1,x,a,b,c=>by
  unfold D.r1 DG.pdqsortR
  rw[GK,ol_heapSort,GO,ol_choosePivot,GT,EN,Gw,ol_partition,funext (λx=>funext λa=>funext λb=>funext λc=>ol_pdqsort n x a b c)]
  simp only[CI,Option.bind_assoc,bs,ER]
  kernel_rfl
theorem cmpL_eq (x y:Int):CI x y=some (cond (decide (x<y)) (-1) 1):=by
 have e:∀x:Int,D.N x=some false:=λx=>by unfold D.N;simp
 unfold CI D.v
 rw[e,bs,cF,bs,bs,Bool.false_or]
noncomputable abbrev byInt :Gs.Srtd Int where
 dflt:=0
 key:=id
 good:=λ_=>True
 cmp:=CI
 law:=λx y _ _=>⟨_,cmpL_eq x y,ER _⟩
theorem sort_any (l:LI)(hl:l.length≤1100000):∃y,D.Z1 l=some y∧List.Perm y l∧∀i j,i<j→j<y.length→y.getD i 0≤y.getD j 0:=by
 letI:=byInt
 obtain⟨y,e,hp,hs⟩:=Gs.sort_spec (α:=Int) l (λ_ _=>trivial) hl
 refine⟨y,?_,hp,λi j hij hj=> ?_⟩
 ·unfold D.Z1 D.b0
  simp only[ol_pdqsort]
  exact e
 ·exact hs i j (by omega) (by omega) (by omega)
theorem GJ :D.n0=D.l2:=by kernel_rfl
theorem oi_heapSort :D.i0=D.i2:=by kernel_rfl
theorem GP :D.a0=D.h2:=by kernel_rfl
theorem oi_choosePivot :D.r0=D.n2:=by kernel_rfl
theorem GQ :D.l0=D.g2:=by kernel_rfl
theorem EO :D.e0=D.m2:=by kernel_rfl
theorem GA :D.q0=D.f2:=by kernel_rfl
theorem oi_partition :D.c0=D.o2:=by kernel_rfl
theorem oi_Less :D.b=D.v:=by kernel_rfl
theorem oi_pdqsort :∀(n:Nat) x a b c,D.B0 n x a b c=D.r1 n x a b c
 |0,_,_,_,_=>rfl
 |n+1,x,a,b,c=>by
  unfold D.B0 D.r1
  rw[GJ,oi_heapSort,GP,oi_choosePivot,GQ,EO,GA,oi_partition,oi_Less,funext (λx=>funext λa=>funext λb=>funext λc=>oi_pdqsort n x a b c)]
  kernel_rfl
theorem oi_Sort (x:LI):D.I1 x=D.Z1 x:=by
 unfold D.I1 D.Z1 D.h D.b0
 simp only[oi_pdqsort]
theorem sorted_any (l:LI)(hl:l.length≤1100000):∃y,D.q2 l=some y∧D.v0 l=some y∧List.Perm y l∧∀i j,i<j→j<y.length→y.getD i 0≤y.getD j 0:=by
 obtain⟨y,e,hp,hs⟩:=sort_any l hl
 refine⟨y,?_,?_,hp,hs⟩
 ·unfold D.q2 D.r2 D.p2
  rw[if_pos hl,bs,bs,e];rfl
 ·unfold D.v0 D.P0 D.Q1
  rw[if_pos hl,bs,bs,oi_Sort,e];rfl
end Go.Sx



namespace Go.Sx
def Sh {α:Type}(xs:List α):Prop:=xs.length≤4294967296
theorem Ev (a b c:Int):D.f a b c=some (decide (b≤a)&&decide (a≤c)):=rfl
theorem FF (a b c:Int):D.A0 a b c=some (decide (b≤a)&&decide (a≤c)):=rfl
theorem any_beq (xs:LI)(n:Int):xs.any (λx=>x==n)=decide (n∈xs):=by
 rw[Bool.eq_iff_iff,List.any_eq_true];simp
theorem FI (xs:LI)(n:Int)(h:Sh xs):D.P xs n=some (decide (n∈xs)):=by
 unfold Sh at h
 unfold D.P
 refine(loop_anyb xs.length (λi=>xs.getD i 0==n) true (λi hi=> ?_) ?_ rfl rfl).trans ?_
 ·simp only[dlt hi,cT,AS hi,bs,wi' hi (by omega),AW hi]
  cases xs[i]==n<;>rfl
 ·simp only[Bx,cF]
 ·rw[range_any_list xs (λx=>x==n) _ (λi hi=>by rw[AW hi]),any_beq]
theorem E3 (xs:LI)(n:Int)(h:Sh xs):D.k0 xs n=some (decide (n∈xs)):=by
 unfold Sh at h
 unfold D.k0 D.s0
 have e:Aw (σ:=Int) (ρ:=(Unit) ⊕ (Int)) (fun(x_26:Int)=>cond (decide (x_26<(xs.length:Int))) ((idx xs x_26).bind λe_39=>cond (n==e_39) (some (.inr (.inr x_26))) (some (.inl (IntKind.i64.wrap (x_26+1))))) (some (.inr (.inl ())))) 0=
   some (((List.range xs.length).findSome? (λi=>if xs.getD i 0==n then some (Sum.inr (i:Int)) else none)).getD (.inl ())):=by
  refine EX xs.length _ _ (λi hi=> ?_) ?_
  ·simp only[dlt hi,cT,AS hi,bs,wi' hi (by omega),AW hi]
   rw[show (n==xs[i])=(xs[i]==n) from Bool.beq_comm ..]
   cases xs[i]==n<;>rfl
  ·simp only[Bx,cF]
 rw[e,bs]
 cases hf:(List.range xs.length).findSome? (λi=>if xs.getD i 0==n then some (Sum.inr (i:Int):Unit ⊕ Int) else none) with
 |none=>
  have:n∉xs:=λhm=>by
   obtain⟨i,hi,e⟩:=List.getElem_of_mem hm
   have:=(List.findSome?_eq_none_iff.1 hf) i (List.mem_range.2 hi)
   rw[AW hi,e] at this
   simp at this
  simp[this]
 |some r=>
  obtain⟨i,hi,hr⟩:=List.exists_of_findSome?_eq_some hf
  have hi':=List.mem_range.1 hi
  rw[AW hi'] at hr
  split at hr
  ·rename_i hc
   cases hr
   have:n∈xs:=by rw[←(beq_iff_eq.1 hc)];exact List.getElem_mem _
   simp[this]
  ·cases hr
def SetOf (xs : LI) (n : Int) : Prop := Inc xs ∧ ∀ x ∈ xs, 0 ≤ x ∧ x < n
theorem SetOf.len :∀{xs:LI} {n a:Int},Inc xs→(∀x∈xs,a≤x∧x<n)→xs=[]∨(xs.length:Int)≤n-a
 |[],_,_,_,_=> .inl rfl
 |x::xs,n,a,h,hr=>by
  right
  have h':=List.pairwise_cons.1 h
  have hx:=hr x (by simp)
  rcases SetOf.len (a:=x+1) (n:=n) h'.2 (λy hy=>⟨by have:=h'.1 y hy;omega,(hr y (by simp[hy])).2⟩) with e|e
  ·subst e;simp;omega
  ·simp;omega
theorem SetOf.length_le {xs:LI}{n:Int}(h:SetOf xs n)(hn:0≤n):(xs.length:Int)≤n:=by
 rcases SetOf.len h.1 h.2 with e|e
 ·subst e;simpa using hn
 ·omega
theorem inc_iff (xs:LI):Inc xs↔∀i (hi:i+1<xs.length),xs[i]<xs[i+1]:=by
 unfold Inc
 constructor
 ·intro h i hi
  exact List.pairwise_iff_getElem.1 h i (i+1) (by omega) hi (by omega)
 ·intro h
  rw[List.pairwise_iff_getElem]
  intro i j hi hj hij
  have key:∀k,∀hk:i+k+1<xs.length,xs[i]<xs[i+k+1]:=by
   intro k
   induction k with
   |zero=>intro hk;exact h i hk
   |succ k ih=>intro hk;have:=ih (by omega);have:=h (i+k+1) hk;exact Int.lt_trans (ih (by omega)) this
  obtain⟨k,rfl⟩:∃k,j=i+k+1:=⟨j-i-1,by omega⟩
  exact key k hj
def Ed (xs:LI)(n:Int):Bool:=(List.range xs.length).all λi=>(decide (0≤xs.getD i 0)&&decide (xs.getD i 0≤n-1))&& !(decide (0<i)&&decide (xs.getD i 0≤xs.getD (i-1) 0))
theorem EH (xs:LI)(n:Int):Ed xs n=true↔SetOf xs n:=by
 unfold Ed SetOf
 rw[Ej,inc_iff]
 constructor
 ·intro h
  refine⟨λi hi=> ?_,λx hx=> ?_⟩
  ·have:=h (i+1) hi
   simp[hi,show i<xs.length by omega] at this
   omega
  ·obtain⟨i,hi,rfl⟩:=List.getElem_of_mem hx
   have:=h i hi
   simp[hi] at this
   omega
 ·rintro⟨h1,h2⟩ i hi
  have h3:=h2 _ (List.getElem_mem hi)
  simp[hi]
  refine⟨by omega,?_⟩
  rcases Nat.eq_zero_or_pos i with h0|h0
  ·exact .inl h0
  ·right
   have:=h1 (i-1) (by omega)
   have e:i-1+1=i:=by omega
   simp only[e] at this
   have e2:xs[i-1]?.getD 0=xs[i-1]:=by rw[List.getElem?_eq_getElem (by omega)];rfl
   rw[e2];exact this
theorem increasing_eq (xs:LI)(n:Int)(h:Sh xs)(h0:0≤n)(hn:n≤4294967296):D.h1 xs n=some (Ed xs n):=by
 unfold Sh at h
 unfold D.h1
 refine D5 xs.length _ false (λi hi=> ?_) ?_ rfl rfl
 ·simp only[dlt hi,cT,AS hi,bs,wi' hi (by omega),AW hi,FF]
  rw[w64 (x:=n-1) (by omega) (by omega)]
  cases (decide (0≤xs[i])&&decide (xs[i]≤n-1))
  ·simp
  ·by_cases h0:0<i
   ·have e1:IntKind.i64.wrap ((i:Int)-1)=((i-1:Nat):Int):=by rw[w64 (by omega) (by omega)];omega
    have hd:decide ((0:Int)<(i:Int))=true:=by simp;omega
    simp only[Bool.not_true,cF,hd,cT,e1,AS (show i-1<xs.length by omega),bs,AW (show i-1<xs.length by omega),h0,decide_true,Bool.true_and]
    cases decide (xs[i]≤xs[i-1])<;>rfl
   ·have hd:decide ((0:Int)<(i:Int))=false:=by simp;omega
    simp only[Bool.not_true,cF,hd,bs,h0,decide_false,Bool.false_and,Bool.not_false,Bool.and_true,if_true]
 ·simp only[Bx,cF]
theorem l1Set_eq (xs:LI)(n:Int)(h:Sh xs)(h0:0≤n)(hn:n≤4294967296):D.Q0 xs n=some (Ed xs n):=by
 have hh:=h
 unfold Sh at h
 unfold D.Q0
 by_cases hl:n<xs.length
 ·have:Ed xs n=false:=by
   cases hb:Ed xs n
   ·rfl
   ·have:=((EH xs n).1 hb).length_le h0;omega
  simp[hl,this]
 ·simp only[hl,decide_false,cF]
  refine D5 xs.length _ false (λi hi=> ?_) ?_ rfl rfl
  ·simp only[dlt hi,cT,AS hi,bs,wi' hi (by omega),AW hi,Ev]
   rw[w64 (x:=n-1) (by omega) (by omega)]
   cases (decide (0≤xs[i])&&decide (xs[i]≤n-1))
   ·simp
   ·by_cases h0:0<i
    ·have e1:IntKind.i64.wrap ((i:Int)-1)=((i-1:Nat):Int):=by rw[w64 (by omega) (by omega)];omega
     have hd:decide ((0:Int)<(i:Int))=true:=by simp;omega
     simp only[Bool.not_true,cF,hd,cT,e1,AS (show i-1<xs.length by omega),bs,AW (show i-1<xs.length by omega),h0,decide_true,Bool.true_and]
     cases decide (xs[i]≤xs[i-1])<;>rfl
    ·have hd:decide ((0:Int)<(i:Int))=false:=by simp;omega
     simp only[Bool.not_true,cF,hd,bs,h0,decide_false,Bool.false_and,Bool.not_false,Bool.and_true,if_true]
  ·simp only[Bx,cF]
def row (g : LL) (v : Nat) : LI := g.getD v []
theorem Ea {g:LL}{v:Nat}(h:v<g.length):row g v=g[v]:=AW h _
def adj (g : LL) (u v : Nat) : Prop := (v : Int) ∈ row g u
structure GOk (g : LL) : Prop where
  n1 : 1 ≤ g.length
  n16 : g.length ≤ 16
  rows : ∀ v, v < g.length → SetOf (row g v) g.length
  irr : ∀ v, v < g.length → ¬ adj g v v
  sym : ∀ u v, u < g.length → adj g u v → adj g v u
theorem GOk.mem {g:LL}(h:GOk g){u:Nat}(hu:u<g.length){x:Int}(hx:x∈row g u):∃v:Nat,x=v∧v<g.length∧adj g u v:=by
 have:=(h.rows u hu).2 x hx
 refine⟨x.toNat,by omega,by omega,?_⟩
 unfold adj
 rw[show ((x.toNat:Nat):Int)=x by omega];exact hx
theorem GOk.row_len {g:LL}(h:GOk g){u:Nat}(hu:u<g.length):(row g u).length≤16:=by
 have:=(h.rows u hu).length_le (by omega)
 have:=h.n16
 omega
theorem GOk.lt {g:LL}(h:GOk g){u v:Nat}(hu:u<g.length)(ha:adj g u v):v<g.length:=by
 obtain⟨w,h1,h2,_⟩:=h.mem hu ha
 omega
def Sh2 (g:LL):Prop:=Sh g∧∀r∈g,Sh r
theorem Sh2.row {g:LL}(h:Sh2 g){v:Nat}(hv:v<g.length):Sh (row g v):=by
 rw[Ea hv];exact h.2 _ (List.getElem_mem hv)
theorem B4 {g:LL}{v:Nat}(h:v<g.length):idx g (v:Int)=some (row g v):=by rw[Ea h,AS h]
def gB1 (g:LL):Bool:=(List.range g.length).all λv=>Ed (row g v) g.length&& !decide ((v:Int)∈row g v)
def gB2 (g:LL):Bool:=(List.range g.length).all λv=>(row g v).all λx=>decide ((v:Int)∈row g x.toNat)
def gB (g:LL):Bool:=decide (1≤g.length)&&decide (g.length≤16)&&gB1 g&&gB2 g
theorem gB_iff (g:LL):gB g=true↔GOk g:=by
 unfold gB gB1 gB2
 simp only[Bool.and_eq_true,decide_eq_true_eq,EH,Bool.not_eq_true',decide_eq_false_iff_not,List.all_eq_true,List.mem_range]
 constructor
 ·rintro⟨⟨⟨h1,h2⟩,h3⟩,h4⟩
  refine⟨h1,h2,λv hv=>(h3 v hv).1,λv hv=>(h3 v hv).2,λu v hu ha=> ?_⟩
  have:=h4 u hu v ha
  unfold adj
  simpa using this
 ·intro h
  refine⟨⟨⟨h.n1,h.n16⟩,λv hv=>⟨h.rows v hv,h.irr v hv⟩⟩,λv hv x hx=> ?_⟩
  obtain⟨u,rfl,hu,ha⟩:=h.mem hv hx
  have:=h.sym v u hv ha
  simpa [adj] using this
theorem Cp (g:LL)(h:Sh2 g):D.q g=some (gB g):=by
 have hl:g.length≤4294967296:=h.1
 unfold D.q D.c
 simp only[bs,Ev]
 by_cases hn:1≤g.length∧g.length≤16
 ·have e:(decide ((1:Int)≤(g.length:Int))&&decide ((g.length:Int)≤16))=true:=by simp;omega
  simp only[e,Bool.not_true,cF]
  refine(Gl g.length (λv=>Ed (row g v) g.length&& !decide ((v:Int)∈row g v)) (.inl ()) (.inr false) (λv hv=> ?_) ?_).trans ?_
  rotate_left
  ·simp only[Bx,cF]
  ·show cond (gB1 g) _ _=_
   have e4:gB g=(gB1 g&&gB2 g):=by unfold gB;simp[hn.1,hn.2]
   rw[e4]
   cases hc:gB1 g with
   |false=>rfl
   |true=>
    rw[cT,Bool.true_and]
    refine D5 g.length _ false (λv hv=> ?_) ?_ rfl rfl
    ·have hset:SetOf (row g v) g.length:=by
      have:=(Ej _ _).1 hc v hv
      simp only[Bool.and_eq_true] at this
      exact(EH _ _).1 this.1
     simp only[dlt hv,cT]
     refine(Gl (row g v).length (λi=>decide ((v:Int)∈row g ((row g v).getD i 0).toNat)) (.inl ()) (.inr false) (λi hi=> ?_) ?_).trans ?_
     ·have hx:=hset.2 _ (List.getElem_mem hi)
      have e5:idx g (row g v)[i]=some (row g ((row g v)[i]).toNat):=by
       have:=B4 (g:=g) (v:=((row g v)[i]).toNat) (by omega)
       rwa [show ((((row g v)[i]).toNat:Nat):Int)=(row g v)[i] by omega] at this
      have hs:=h.row (v:=((row g v)[i]).toNat) (by omega)
      simp only[B4 hv,bs,dlt hi,cT,AS hi,e5,FI _ _ hs,wi (show i<4611686018427387904 by have:=h.row hv;unfold Sh at this;omega),AW hi]
      cases decide ((v:Int)∈row g ((row g v)[i]).toNat)<;>rfl
     ·simp only[B4 hv,bs,Bx,cF]
     ·rw[E8 (row g v) (λx=>decide ((v:Int)∈row g x.toNat)) _ (λi hi=>by rw[AW hi]),wi' hv (by omega)]
      cases (row g v).all λx=>decide ((v:Int)∈row g x.toNat)<;>rfl
    ·simp only[Bx,cF]
  ·simp only[dlt hv,cT,B4 hv,bs,l1Set_eq _ _ (h.row hv) (show (0:Int)≤(g.length:Int) by omega) (by omega),FI _ _ (h.row hv),wi' hv (by omega)]
   cases Ed (row g v) g.length
   ·rfl
   ·cases decide ((v:Int)∈row g v)<;>rfl
 ·have e:(decide ((1:Int)≤(g.length:Int))&&decide ((g.length:Int)≤16))=false:=by
   rw[Bool.eq_false_iff];simp;omega
  simp only[e,Bool.not_false,cT]
  unfold gB
  congr 1
  symm
  rw[Bool.eq_false_iff]
  simp
  omega
theorem DQ (g:LL)(h:Sh2 g):D.M0 g=some (gB g):=by
 have hl:g.length≤4294967296:=h.1
 unfold D.M0
 by_cases hn:1≤g.length∧g.length≤16
 ·have e:(decide ((g.length:Int)<(1:Int))||decide ((16:Int)<(g.length:Int)))=false:=by simp;omega
  simp only[e,cF]
  refine(Gl g.length (λv=>Ed (row g v) g.length&& !decide ((v:Int)∈row g v)) (.inl ()) (.inr false) (λv hv=> ?_) ?_).trans ?_
  rotate_left
  ·simp only[Bx,cF]
  ·show cond (gB1 g) _ _=_
   have e4:gB g=(gB1 g&&gB2 g):=by unfold gB;simp[hn.1,hn.2]
   rw[e4]
   cases hc:gB1 g with
   |false=>rfl
   |true=>
    rw[cT,Bool.true_and]
    refine D5 g.length _ false (λv hv=> ?_) ?_ rfl rfl
    ·have hset:SetOf (row g v) g.length:=by
      have:=(Ej _ _).1 hc v hv
      simp only[Bool.and_eq_true] at this
      exact(EH _ _).1 this.1
     simp only[dlt hv,cT,B4 hv,bs]
     refine(Gl (row g v).length (λi=>decide ((v:Int)∈row g ((row g v).getD i 0).toNat)) (.inl ()) (.inr false) (λi hi=> ?_) ?_).trans ?_
     ·have hx:=hset.2 _ (List.getElem_mem hi)
      have e5:idx g (row g v)[i]=some (row g ((row g v)[i]).toNat):=by
       have:=B4 (g:=g) (v:=((row g v)[i]).toNat) (by omega)
       rwa [show ((((row g v)[i]).toNat:Nat):Int)=(row g v)[i] by omega] at this
      have hs:=h.row (v:=((row g v)[i]).toNat) (by omega)
      simp only[bs,dlt hi,cT,AS hi,e5,E3 _ _ hs,wi (show i<4611686018427387904 by have:=h.row hv;unfold Sh at this;omega),AW hi]
      cases decide ((v:Int)∈row g ((row g v)[i]).toNat)<;>rfl
     ·simp only[Bx,cF]
     ·rw[E8 (row g v) (λx=>decide ((v:Int)∈row g x.toNat)) _ (λi hi=>by rw[AW hi]),wi' hv (by omega)]
      cases (row g v).all λx=>decide ((v:Int)∈row g x.toNat)<;>rfl
    ·simp only[Bx,cF]
  ·simp only[dlt hv,cT,B4 hv,bs,increasing_eq _ _ (h.row hv) (show (0:Int)≤(g.length:Int) by omega) (by omega),E3 _ _ (h.row hv),wi' hv (by omega)]
   cases Ed (row g v) g.length
   ·rfl
   ·cases decide ((v:Int)∈row g v)<;>rfl
 ·have e:(decide ((g.length:Int)<(1:Int))||decide ((16:Int)<(g.length:Int)))=true:=by
   simp;omega
  simp only[e,cT]
  unfold gB
  congr 1
  symm
  rw[Bool.eq_false_iff]
  simp
  omega
structure OOk (g : LL) (o : LI) : Prop where
  len : o.length = g.length
  rng : ∀ x ∈ o, 0 ≤ x ∧ x < g.length
  nd : o.Nodup
def oB (g:LL)(o:LI):Bool:=(List.range o.length).all λi=>(decide (0≤o.getD i 0)&&decide (o.getD i 0≤(g.length:Int)-1))&& !decide (o.getD i 0∈o.take i)
theorem mem_take_iff {α:Type}{l:List α}{i:Nat}{x:α}:x∈l.take i↔∃j,∃h:j<l.length,j<i∧l[j]=x:=by
 rw[List.mem_take_iff_getElem]
 constructor
 ·rintro⟨j,h,e⟩;exact⟨j,by omega,by omega,e⟩
 ·rintro⟨j,h,h2,e⟩;exact⟨j,by omega,e⟩
theorem nodup_iff {l:LI}:l.Nodup↔∀i (hi:i<l.length),l[i]∉l.take i:=by
 constructor
 ·intro h i hi hm
  obtain⟨j,hj,hji,e⟩:=mem_take_iff.1 hm
  have:=(List.pairwise_iff_getElem.1 h) j i hj hi hji
  exact this e
 ·intro h
  refine List.pairwise_iff_getElem.2 (λi j hi hj hij e=>h j hj (mem_take_iff.2 ⟨i,hi,hij,e⟩))
theorem oB_iff (g:LL)(o:LI)(hl:o.length=g.length):oB g o=true↔OOk g o:=by
 unfold oB
 rw[Ej]
 constructor
 ·intro h
  refine⟨hl,λx hx=> ?_,nodup_iff.2 λi hi=> ?_⟩
  ·obtain⟨i,hi,rfl⟩:=List.getElem_of_mem hx
   have:=h i hi
   rw[AW hi] at this
   simp at this;omega
  ·have:=h i hi
   rw[AW hi] at this
   simp at this;exact this.2
 ·intro h i hi
  have h1:=h.rng _ (List.getElem_mem hi)
  have h2:=nodup_iff.1 h.nd i hi
  rw[AW hi]
  simp[h2];omega
def ordB (g:LL)(o:LI):Bool:=decide (o.length=g.length)&&oB g o
theorem ordB_iff (g:LL)(o:LI):ordB g o=true↔OOk g o:=by
 unfold ordB
 by_cases hl:o.length=g.length
 ·simp[hl,oB_iff g o hl]
 ·simp[hl];intro h;exact hl h.len
theorem GU (g:LL)(o:LI)(h:Sh2 g)(ho:Sh o):D.m1 g o=some (gB g&&ordB g o):=by
 have hl:g.length≤4294967296:=h.1
 have hol:o.length≤4294967296:=ho
 unfold D.m1
 rw[Cp g h,bs]
 cases hg:gB g
 ·rfl
 ·have hg':=(gB_iff g).1 hg
  simp only[cT]
  unfold D.S1 D.c ordB
  simp only[bs]
  by_cases hl:o.length=g.length
  ·have e:((o.length:Int) !=(g.length:Int))=false:=by simp[hl]
   simp only[e,cF]
   simp only[Option.bind_fun_some,hl,decide_true,Bool.true_and]
   unfold oB
   rw[←hl]
   refine D5 o.length _ false (λi hi=> ?_) ?_ rfl rfl
   ·have hsh:Sh (o.take i):=by unfold Sh;rw[List.length_take];omega
    simp only[dlt hi,cT,AS hi,bs,wi' hi (by omega),AW hi,←hl,D.s,D.c,Ev,Eh (show i≤o.length by omega),FI _ _ hsh]
    rw[w64 (x:=(o.length:Int)-1) (by omega) (by omega)]
    cases (decide (0≤o[i])&&decide (o[i]≤(o.length:Int)-1))
    ·rfl
    ·cases decide (o[i]∈o.take i)<;>rfl
   ·simp only[Bx,cF]
  ·have e:((o.length:Int) !=(g.length:Int))=true:=by simp;omega
   simp[e,hl]
theorem Db (v:Nat):D.e (v:Int)=some (ishl .u32 1 (v:Int)):=by
 unfold D.e
 have:decide ((v:Int)<0)=false:=by simp
 rw[this];rfl
theorem impl_one_eq' {x:Int}(h:0≤x):D.e x=some (ishl .u32 1 x):=by
 have:=Db x.toNat
 rwa [show ((x.toNat:Nat):Int)=x by omega] at this
def mk (xs : LI) : Int := xs.foldl (fun s v => ior .u32 s (ishl .u32 1 v)) 0
theorem maskOf_eq (xs:LI)(h:Sh xs)(h0:∀x∈xs,0≤x):D.o1 xs=some (mk xs):=by
 unfold Sh at h
 unfold D.o1
 refine(Fo xs (λs i=>(s,i)) (λs v=>ior .u32 s (ishl .u32 1 v)) (λs=>s) (λ_=>True) 0 trivial (λs i hi _=>⟨?_,trivial⟩) (λs _=> ?_)).trans rfl
 ·simp only[dlt hi,cT,AS hi,bs,wi' hi (by omega),impl_one_eq' (h0 _ (List.getElem_mem hi))]
 ·simp only[Bx,cF]
theorem FY :∀(xs:LI) (s:Int),VS s→VS (xs.foldl (λs v=>ior .u32 s (ishl .u32 1 v)) s)
 |[],s,h=>h
 |x::xs,s,_=>FY xs _ (VS.ior _ _)
theorem VS.mk (xs:LI):VS (mk xs):=FY xs 0 VS.zero
theorem FS (u:Nat):∀(xs:LI) (s:Int),VS s→(∀x∈xs,0≤x∧x<32)→has (xs.foldl (λs v=>ior .u32 s (ishl .u32 1 v)) s) u=(has s u||decide ((u:Int)∈xs))
 |[],s,_,_=>by simp
 |x::xs,s,hs,h=>by
  have hx:=h x (by simp)
  rw[List.foldl_cons,FS u xs _ (VS.ior _ _) (λy hy=>h y (by simp[hy])),DC hs (VS.ishl _ _)]
  obtain⟨k,rfl⟩:∃k:Nat,x=k:=⟨x.toNat,by omega⟩
  rw[CV (by omega)]
  by_cases hu:u=k
  ·subst hu;simp
  ·have:¬(u:Int)=(k:Int):=by omega
   simp[hu,this]
theorem D9 {xs:LI}(h:∀x∈xs,0≤x∧x<32)(u:Nat):has (mk xs) u=decide ((u:Int)∈xs):=by
 unfold mk;rw[FS u xs 0 VS.zero h,Cc,Bool.false_or]
theorem GOk.mem0 {g:LL}(hg:GOk g){r:LI}(hr:r∈g):r.length≤16∧∀x∈r,0≤x∧x<g.length:=by
 obtain⟨v,hv,rfl⟩:=List.getElem_of_mem hr
 rw[←Ea hv]
 exact⟨hg.row_len hv,(hg.rows v hv).2⟩
theorem EP (g:LL)(hg:GOk g):D.J g=some (g.map mk):=by
 have h16:=hg.n16
 unfold D.J
 refine(FD g (λs i=>(s,i)) mk (by omega) (λs i hi _=> ?_) (λs=> ?_)).trans rfl
 ·obtain⟨h1,h2⟩:=hg.mem0 (List.getElem_mem hi)
  simp only[dlt hi,cT,AS hi,bs,wi' hi (by omega),maskOf_eq g[i] (by unfold Sh;omega) (λx hx=>(h2 x hx).1)]
 ·simp only[Bx,cF]
theorem Gp (xs:LI)(h:Sh xs):D.u xs=some xs:=by
 unfold Sh at h
 unfold D.u
 rw[makeD_zero (by omega) (by omega),bs]
 refine(FD xs (λs i=>(s,i)) (λx=>x) h (λs i hi _=> ?_) (λs=> ?_)).trans (by simp)
 ·simp only[dlt hi,cT,AS hi,bs,wi' hi (by omega)]
 ·simp only[Bx,cF]
theorem least_eq {s:Int}(h:VS s)(h0:s≠0):∃k:Nat,k<32∧D.M s=some (k:Int)∧has s k=true∧(∀v,v<k→has s v=false)∧
  (∀v,has (iand .u32 s (IntKind.u32.wrap (s-1))) v=(has s v&& !decide (v=k))):=by
 obtain⟨k,h1,h2,h3,h4,h5⟩:=least_spec h h0
 refine⟨k,h1,?_,h2,h3,h5⟩
 unfold D.M D.Y1
 have e:(s==0)=false:=by simpa using h0
 simp only[e,cF,h4,tz_table k h1,bs]
 rw[w64 (by omega) (by omega)]
theorem Et (s:Int)(h:VS s):D.r s=some (Az s):=by
 unfold D.r
 have key:∀(n:Nat) (x:Int) (l:LI),VS x→(Az x).length=n→l.length+n≤32→
   Aw (σ:=Int×LI) (ρ:=(LI)) (fun(s_52:Int×LI)=>match s_52 with|(x_55,l_56)=>cond (x_55 !=0) ((D.M x_55).bind λy_88=>(AU l_56 ([y_88]:LI)).bind λl_99=>some (.inl ((iand .u32 x_55 (IntKind.u32.wrap (x_55-1))),l_99))) (some (.inr l_56))) (x,l)=some (l++Az x):=by
  intro n
  induction n with
  |zero=>
   intro x l hx hn _
   have e:Az x=[]:=List.eq_nil_of_length_eq_zero hn
   have e0:x=0:=hx.eq_zero.2 λv hv=>by
    cases hc:has x v
    ·rfl
    ·have:=mem_elems.2 ⟨v,hv,hc,rfl⟩;rw[e] at this;simp at this
   rw[e]
   refine Cr ?_
   have:(x !=0)=false:=by simp[e0]
   simp only[this,cF,List.append_nil]
  |succ n ih=>
   intro x l hx hn hl
   have h0:x≠0:=by rintro rfl;rw[Ei] at hn;simp at hn
   obtain⟨k,h1,h2,h3,h4,h5⟩:=least_eq hx h0
   have e:=elems_least h1 h3 h4 h5
   have en:(Az (iand .u32 x (IntKind.u32.wrap (x-1)))).length=n:=by rw[e] at hn;simpa using hn
   have hstep:=ih (iand .u32 x (IntKind.u32.wrap (x-1))) (l++[(k:Int)]) (VS.iand _ _) en (by simp;omega)
   have e1:(x !=0)=true:=by simpa using h0
   rw[Cj (s':=(iand .u32 x (IntKind.u32.wrap (x-1)),l++[(k:Int)]))]
   ·rw[hstep,e];simp
   ·simp only[e1,cT,h2,bs,Bp (xs:=l) (ys:=[(k:Int)]) (by simp;omega)]
 have:=key (Az s).length s [] h rfl (by simpa using CX s)
 rw[this];simp
theorem elems_sh (s:Int):Sh (Az s):=by have:=CX s;unfold Sh;omega
theorem numbers_eq (s:Int)(h:VS s):D.s1 s=some (Az s):=by
 unfold D.s1
 rw[Et s h,bs,Gp _ (elems_sh s)];rfl
theorem Gb (xs:LI)(h:Sh xs):D.j xs=some xs:=by
 unfold Sh at h
 unfold D.j
 rw[Bp (by simpa using h)];rfl
def into (xs:LI)(n:Int):LI:=if n∈xs then xs else xs.takeWhile (λx=>decide (x<n))++n::xs.dropWhile (λx=>decide (x<n))
theorem mem_into {xs:LI}{n x:Int}:x∈into xs n↔x=n∨x∈xs:=by
 unfold into
 split
 ·constructor
  ·intro h;exact .inr h
  ·rintro(rfl|h)
   ·assumption
   ·exact h
 ·have e:x∈xs↔x∈xs.takeWhile (λx=>decide (x<n))++xs.dropWhile (λx=>decide (x<n)):=by rw[List.takeWhile_append_dropWhile]
  rw[e];simp only[List.mem_append,List.mem_cons]
  constructor
  ·rintro(h|h|h)<;>simp[h]
  ·rintro(h|h|h)<;>simp[h]
theorem FQ {xs:LI}{n:Int}(h:Inc xs):∀y∈xs.dropWhile (λx=>decide (x<n)),n≤y:=by
 induction xs with
 |nil=>simp
 |cons x xs ih=>
  have h':=List.pairwise_cons.1 h
  intro y hy
  rw[List.dropWhile_cons] at hy
  split at hy
  ·exact ih h'.2 y hy
  ·rename_i hc
   simp at hc
   rcases List.mem_cons.1 hy with rfl|hy
   ·exact hc
   ·have:=h'.1 y hy;omega
theorem inc_takeWhile {xs:LI}{n:Int}:∀y∈xs.takeWhile (λx=>decide (x<n)),y<n:=by
 intro y hy
 induction xs with
 |nil=>simp at hy
 |cons x xs ih=>
  rw[List.takeWhile_cons] at hy
  split at hy
  ·rename_i hc
   rcases List.mem_cons.1 hy with rfl|hy
   ·simpa using hc
   ·exact ih hy
  ·simp at hy
theorem Inc.into {xs:LI}(h:Inc xs)(n:Int):Inc (into xs n):=by
 unfold Sx.into
 split
 ·exact h
 ·rename_i hn
  unfold Inc
  rw[List.pairwise_append]
  refine⟨List.Pairwise.sublist (List.takeWhile_sublist _) h,List.pairwise_cons.2 ⟨λy hy=> ?_,List.Pairwise.sublist (List.dropWhile_sublist _) h⟩,λa ha b hb=> ?_⟩
  ·have h1:=FQ h y hy
   have h2:y≠n:=λe=>hn (e▸(List.dropWhile_sublist _).mem hy)
   omega
  ·have h1:=inc_takeWhile a ha
   rcases List.mem_cons.1 hb with rfl|hb
   ·exact h1
   ·have:=FQ h b hb;omega
theorem Dr {α:Type}(p:α→Bool):∀(xs:List α),xs.takeWhile p=xs.take (xs.takeWhile p).length∧xs.dropWhile p=xs.drop (xs.takeWhile p).length
 |[]=>by simp
 |x::xs=>by
  rw[List.takeWhile_cons,List.dropWhile_cons]
  cases p x
  ·simp
  ·have:=Dr p xs
   simp only[if_true,List.length_cons,List.take_succ_cons,List.drop_succ_cons,←this.1,←this.2,and_self]
theorem Dv {α:Type}(p:α→Bool):∀(xs:List α) (i:Nat) (h:i<(xs.takeWhile p).length) (h':i<xs.length),p xs[i]=true
 |x::xs,i,h,h'=>by
  rw[List.takeWhile_cons] at h
  cases hp:p x
  ·rw[hp] at h;simp at h
  ·rw[hp] at h
   cases i with
   |zero=>simpa using hp
   |succ i=>simp only[if_true,List.length_cons] at h;simpa using Dv p xs i (by omega) (by simpa using h')
theorem D3 {α:Type}(p:α→Bool):∀(xs:List α) (h:(xs.takeWhile p).length<xs.length),p (xs[(xs.takeWhile p).length])=false
 |x::xs,h=>by
  cases hp:p x
  ·simp[List.takeWhile_cons,hp]
  ·have h2:(xs.takeWhile p).length<xs.length:=by simpa [List.takeWhile_cons,hp] using h
   simpa [List.takeWhile_cons,hp] using D3 p xs h2
theorem GN {α:Type}(p:α→Bool)(xs:List α):(xs.takeWhile p).length≤xs.length:=(List.takeWhile_sublist _).length_le
theorem l1Into_eq (xs:LI)(n:Int)(h:Inc xs)(hl:xs.length≤4294967295):D.t xs n=some (into xs n):=by
 unfold D.t
 generalize hk:(xs.takeWhile (λx=>decide (x<n))).length=k
 have hkl:k≤xs.length:=by rw[←hk];exact GN _ _
 have htk:xs.takeWhile (λx=>decide (x<n))=xs.take k:=by rw[←hk];exact(Dr _ xs).1
 have hdk:xs.dropWhile (λx=>decide (x<n))=xs.drop k:=by rw[←hk];exact(Dr _ xs).2
 refine(CT (λi=>((i:Nat):Int)) k (k:Int) rfl (λi hi=> ?_) ?_).trans ?_
 ·have hi':i<xs.length:=by omega
  have hp:decide (xs[i]<n)=true:=Dv (λx=>decide (x<n)) xs i (by omega) hi'
  simp only[dlt hi',cT,AS hi',bs,hp,wq i]
 ·by_cases hlt:k<xs.length
  ·have hp:decide (xs[k]<n)=false:=by
    have:=D3 (λx=>decide (x<n)) xs (by omega)
    simp only[hk] at this;exact this
   simp only[dlt hlt,cT,AS hlt,bs,hp,cF]
  ·obtain rfl:k=xs.length:=by omega
   simp only[Bx,cF,bs]
 ·have hS1:Sh (xs.take k):=by unfold Sh;rw[List.length_take];omega
  have hrest:((Ck xs 0 (k:Int)).bind λl_135=>(D.j l_135).bind λy_139=>(AU y_139 ([n]:LI)).bind λl_154=>(Ck xs (k:Int) (xs.length:Int)).bind λl_160=>(AU l_154 l_160).bind λl_164=>some l_164)=some (xs.take k++n::xs.drop k):=by
   simp only[Eh hkl,E6 hkl,bs,Gb _ hS1]
   rw[Bp (by simp;omega),bs,Bp (by simp;omega),bs]
   simp
  by_cases hlt:k<xs.length
  ·simp only[dlt hlt,cT,AS hlt,bs]
   by_cases he:xs[k]=n
   ·have hm:n∈xs:=by rw[←he];exact List.getElem_mem _
    have:(xs[k]==n)=true:=by simp[he]
    simp only[this,cT]
    unfold into;rw[if_pos hm]
   ·have:(xs[k]==n)=false:=by simpa using he
    simp only[this,cF,hrest]
    unfold into
    rw[htk,hdk,if_neg]
    intro hm
    obtain⟨j,hj,e⟩:=List.getElem_of_mem hm
    have hst:decide (xs[k]<n)=false:=by
     have:=D3 (λx=>decide (x<n)) xs (by omega)
     simp only[hk] at this;exact this
    simp at hst
    rcases Nat.lt_trichotomy j k with h1|h1|h1
    ·have:=Dv (λx=>decide (x<n)) xs j (by omega) hj
     simp at this;omega
    ·subst h1;exact he e
    ·have:=(List.pairwise_iff_getElem.1 h) k j hlt hj h1
     omega
  ·obtain rfl:k=xs.length:=by omega
   simp only[Bx,cF,bs,hrest]
   unfold into
   rw[htk,hdk,if_neg]
   intro hm
   obtain⟨j,hj,e⟩:=List.getElem_of_mem hm
   have:=Dv (λx=>decide (x<n)) xs j (by omega) hj
   simp at this;omega
end Go.Sx



namespace Go.Sx
structure DK (b:LI)(i:Int):Prop where
 byte:∀x∈b,0≤x∧x≤255
 len:b.length≤4096
 i0:0≤i
 i1:i≤b.length
theorem iand_u64_le (a:Int)(n:Nat)(hn:n<18446744073709551616):0≤iand .u64 a (n:Int)∧iand .u64 a (n:Int)≤n:=by
 have e:(BitVec.ofInt 64 (n:Int)).toNat=n:=by rw[BitVec.toNat_ofInt];omega
 have h:(BitVec.ofInt 64 a&&&BitVec.ofInt 64 (n:Int)).toNat≤n:=by
  rw[BitVec.toNat_and,e];exact Nat.and_le_right
 have w:∀m:Nat,m<18446744073709551616→IntKind.u64.wrap (m:Int)=m:=λm hm=>by
  simp[IntKind.wrap,IntKind.signed,IntKind.bits];omega
 have e2:iand .u64 a (n:Int)=(((BitVec.ofInt 64 a&&&BitVec.ofInt 64 (n:Int)).toNat:Nat):Int):=by
  show IntKind.u64.wrap (((BitVec.ofInt 64 a&&&BitVec.ofInt 64 (n:Int)).toNat:Nat):Int)=_
  exact w _ (by omega)
 rw[e2];omega
theorem FM {x n:Int}(hx:0≤x)(hn:0<n):0≤Int.tmod x n∧Int.tmod x n<n:=
 ⟨Int.tmod_nonneg _ hx,Int.tmod_lt_of_pos _ hn⟩
theorem below_ok {b:LI}{i:Int}(h:DK b i)(z n:Int)(hn:0<n):∃r i' z',D.Z0 b i z n=some (r,b,i',z')∧0≤r∧r<n∧DK b i':=by
 obtain⟨h1,h2,h3,h4⟩:=h
 unfold D.Z0
 have hn0:(n==0)=false:=by simp;omega
 have hc:∀y:Int,0≤iand .u64 y 16777215∧iand .u64 y 16777215≤16777215:=λy=>iand_u64_le y 16777215 (by omega)
 by_cases hi:i<b.length
 ·have hb:=h1 _ (List.getElem_mem (show i.toNat<b.length by omega))
  simp only[hi,decide_true,cT,DS h3 hi,bs,hn0,cF]
  have hy:=hc (BL .u64 (IntKind.u64.wrap ((IntKind.u64.wrap (z*6364136223846793005))+1442695040888963407)) 33)
  generalize iand .u64 (BL .u64 (IntKind.u64.wrap ((IntKind.u64.wrap (z*6364136223846793005))+1442695040888963407)) 33) 16777215=y at hy ⊢
  rw[w64 (x:=y) (by omega) (by omega),w64 (x:=b[i.toNat]) (by omega) (by omega),w64 (x:=y+b[i.toNat]) (by omega) (by omega),w64 (x:=i+1) (by omega) (by omega)]
  have hr:=FM (x:=y+b[i.toNat]) (n:=n) (by omega) hn
  exact⟨_,_,_,rfl,hr.1,hr.2,h1,h2,by omega,by omega⟩
 ·simp only[hi,decide_false,cF,hn0]
  have hy:=hc (BL .u64 (IntKind.u64.wrap ((IntKind.u64.wrap (z*6364136223846793005))+1442695040888963407)) 33)
  generalize iand .u64 (BL .u64 (IntKind.u64.wrap ((IntKind.u64.wrap (z*6364136223846793005))+1442695040888963407)) 33) 16777215=y at hy ⊢
  rw[w64 (x:=y) (by omega) (by omega)]
  have hr:=FM (x:=y) (n:=n) (by omega) hn
  exact⟨_,_,_,rfl,hr.1,hr.2,h1,h2,h3,h4⟩
theorem below_then {b:LI}{i:Int}(h:DK b i)(z n:Int)(hn:0<n):∃y,D.Z0 b i z n=some y∧(0≤y.1∧y.1<n∧y.2.1=b∧DK b y.2.2.1):=by
 obtain⟨r,i',z',e,h1,h2,h3⟩:=below_ok h z n hn
 exact⟨_,e,h1,h2,rfl,h3⟩
theorem roll_ok (code:LI)(seed:Int)(h:∀x∈code,0≤x∧x≤255)(hl:code.length≤4096):∃z,D.v1 code seed=some (code,0,z)∧DK code 0:=by
 unfold D.v1
 refine⟨_,(Fo code (λs i=>(i,s)) (λs e=>IntKind.u64.wrap ((IntKind.u64.wrap ((IntKind.u64.wrap (s*1099511628211))+(IntKind.u64.wrap e)))+3)) (λs=>s) (λ_=>True) _ trivial (λs i hi _=>⟨?_,trivial⟩) (λs _=> ?_)).trans rfl,h,hl,by omega,by omega⟩
 ·simp only[dlt hi,cT,AS hi,bs,wq i]
 ·simp only[Bx,cF]
theorem l1Empty_eq (n:Nat)(hn:n≤16):D.n (n:Int)=some (List.replicate n []):=by
 unfold D.n
 refine(CT (λi=>((i:Int),List.replicate i [])) n (List.replicate n []) (by simp) (λi hi=> ?_) ?_).trans rfl
 ·simp only[dlt hi,cT,wq i]
  rw[Bp (by simp;omega),bs,←List.replicate_succ']
 ·simp only[Bx,cF]
theorem C9 {g:LL}{u v:Nat}{r:LI}(hu:u<g.length):row (g.set u r) v=if v=u then r else row g v:=by
 unfold row
 by_cases h:v=u
 ·subst h;simp[hu]
 ·rw[if_neg h,List.getD_eq_getElem?_getD,List.getElem?_set_ne (λe=>h e.symm),←List.getD_eq_getElem?_getD]
theorem Dh {g:LL}(hg:GOk g){u v:Nat}(hu:u<g.length)(hv:v<g.length)(huv:u≠v):
  ∃g',D.k g (u:Int) (v:Int)=some g'∧GOk g'∧g'.length=g.length∧∀a b,adj g' a b↔adj g a b∨(a=u∧b=v)∨(a=v∧b=u):=by
 have h16:=hg.n16
 have hru:=hg.rows u hu;have hrv:=hg.rows v hv
 have hlu:=hg.row_len hu;have hlv:=hg.row_len hv
 refine⟨(g.set u (into (row g u) v)).set v (into (row g v) u),?_,?_⟩
 ·unfold D.k
  have e1:row (g.set u (into (row g u) v)) v=row g v:=by rw[C9 hu,if_neg (Ne.symm huv)]
  simp only[B4 hu,bs,l1Into_eq _ _ hru.1 (show (row g u).length≤4294967295 by omega),Int.toNat_natCast]
  rw[B4 (show v<(g.set u (into (row g u) v)).length by simpa using hv),e1]
  simp only[bs,l1Into_eq _ _ hrv.1 (show (row g v).length≤4294967295 by omega)]
 ·have hrow:∀w,row ((g.set u (into (row g u) v)).set v (into (row g v) u)) w=if w=v then into (row g v) u else if w=u then into (row g u) v else row g w:=by
   intro w
   rw[C9 (by simpa using hv),C9 hu]
  have hadj:∀a b,adj ((g.set u (into (row g u) v)).set v (into (row g v) u)) a b↔adj g a b∨(a=u∧b=v)∨(a=v∧b=u):=by
   intro a b
   unfold adj
   rw[hrow]
   by_cases ha:a=v
   ·subst ha
    rw[if_pos rfl,mem_into]
    constructor
    ·rintro(h|h)
     ·exact .inr (.inr ⟨rfl,by omega⟩)
     ·exact .inl h
    ·rintro(h|⟨h,_⟩|⟨_,h⟩)
     ·exact .inr h
     ·exact absurd h.symm huv
     ·exact .inl (by omega)
   ·rw[if_neg ha]
    by_cases ha':a=u
    ·subst ha'
     rw[if_pos rfl,mem_into]
     constructor
     ·rintro(h|h)
      ·exact .inr (.inl ⟨rfl,by omega⟩)
      ·exact .inl h
     ·rintro(h|⟨_,h⟩|⟨h,_⟩)
      ·exact .inr h
      ·exact .inl (by omega)
      ·exact absurd h ha
    ·rw[if_neg ha']
     constructor
     ·exact .inl
     ·rintro(h|⟨h,_⟩|⟨h,_⟩)
      ·exact h
      ·exact absurd h ha'
      ·exact absurd h ha
  refine⟨⟨by simpa using hg.n1,by simpa using h16,λw hw=> ?_,λw hw=> ?_,λa b ha hab=> ?_⟩,by simp,hadj⟩
  ·simp only[List.length_set] at hw ⊢
   rw[hrow]
   split
   ·refine⟨hrv.1.into _,λx hx=> ?_⟩
    rcases mem_into.1 hx with rfl|hx
    ·omega
    ·exact hrv.2 x hx
   ·split
    ·refine⟨hru.1.into _,λx hx=> ?_⟩
     rcases mem_into.1 hx with rfl|hx
     ·omega
     ·exact hru.2 x hx
    ·exact hg.rows w hw
  ·simp only[List.length_set] at hw
   rw[hadj]
   rintro(h|⟨h1,h2⟩|⟨h1,h2⟩)
   ·exact hg.irr w hw h
   ·omega
   ·omega
  ·simp only[List.length_set] at ha
   rw[hadj] at hab ⊢
   rcases hab with h|h|h
   ·exact .inl (hg.sym a b ha h)
   ·exact .inr (.inr ⟨h.2,h.1⟩)
   ·exact .inr (.inl ⟨h.2,h.1⟩)
theorem GOk.empty {n:Nat}(h1:1≤n)(h16:n≤16):GOk (List.replicate n []):=by
 have hr:∀v,row (List.replicate n []) v=[]:=λv=>by
  unfold row
  rw[List.getD_eq_getElem?_getD,List.getElem?_replicate];split<;>rfl
 refine⟨by simpa using h1,by simpa using h16,λv _=> ?_,λv _=> ?_,λu v _ h=> ?_⟩
 ·rw[hr];exact⟨by simp[Inc],by simp⟩
 ·unfold adj;rw[hr];simp
 ·unfold adj at h;rw[hr] at h;simp at h
end Go.Sx



namespace Go.Sx
theorem ext_getD {a b:LI}(hl:a.length=b.length)(h:∀j,j<a.length→a.getD j 0=b.getD j 0):a=b:=by
 apply List.ext_getElem hl
 intro j h1 h2
 have:=h j h1
 rwa [AW h1,AW h2] at this
def nb (F : LI) (u w : Nat) : Bool := has (F.getD u 0) w
structure FOk (F : LI) (n : Nat) : Prop where
  len : F.length = n
  vs : ∀ u, u < n → VS (F.getD u 0)
  lt : ∀ u w, u < n → nb F u w = true → w < n
  irr : ∀ u, u < n → nb F u u = false
  sym : ∀ u w, u < n → nb F u w = true → nb F w u = true
theorem Du (g:LL)(u:Nat):(g.map mk).getD u 0=mk (row g u):=by
 unfold row
 simp only[List.getD_eq_getElem?_getD,List.getElem?_map]
 cases g[u]? with
 |none=>simp[mk]
 |some r=>rfl
theorem nb_mk {g:LL}(hg:GOk g){u w:Nat}(hu:u<g.length):nb (g.map mk) u w=true↔adj g u w:=by
 have h16:=hg.n16
 unfold nb
 rw[Du,D9 (λx hx=>by have:=(hg.rows u hu).2 x hx;omega)]
 simp[adj]
def grow (F:LI):LL:=F.map Az
theorem row_grow (F:LI)(u:Nat):row (grow F) u=Az (F.getD u 0):=by
 unfold row grow
 simp only[List.getD_eq_getElem?_getD,List.getElem?_map]
 cases F[u]? with
 |none=>simp[Ei]
 |some r=>rfl
theorem Dk {F:LI}{n u w:Nat}(h:FOk F n)(hu:u<n):adj (grow F) u w↔nb F u w=true:=by
 unfold adj nb
 rw[row_grow,BS (h.vs u hu)]
theorem GOk.grow {F:LI}{n:Nat}(h:FOk F n)(h1:1≤n)(h16:n≤16):GOk (grow F):=by
 have hl:(Sx.grow F).length=n:=by unfold Sx.grow;rw[List.length_map,h.len]
 refine⟨by omega,by omega,λv hv=> ?_,λv hv ha=> ?_,λu v hu ha=> ?_⟩
 ·rw[row_grow,hl]
  refine⟨Ch _,λx hx=> ?_⟩
  obtain⟨w,_,h2,rfl⟩:=mem_elems.1 hx
  have:=h.lt v w (by omega) h2
  omega
 ·rw[Dk h (by omega)] at ha
  rw[h.irr v (by omega)] at ha;cases ha
 ·rw[Dk h (by omega)] at ha
  have:=h.lt u v (by omega) ha
  rw[Dk h (by omega)]
  exact h.sym u v (by omega) ha
theorem mk_elems {s:Int}(h:VS s):mk (Az s)=s:=by
 refine(VS.mk _).ext h (λv hv=> ?_)
 rw[D9 (λx hx=>by obtain⟨w,h1,_,rfl⟩:=mem_elems.1 hx;omega),Bool.eq_iff_iff,decide_eq_true_eq,BS h]
theorem grow_mk {F:LI}{n:Nat}(h:FOk F n):(grow F).map mk=F:=by
 refine ext_getD (by simp[grow]) (λj hj=> ?_)
 rw[Du,row_grow,mk_elems (h.vs j (by simp[grow,h.len] at hj;omega))]
theorem all_mask :∀n:Fin 17,∀v:Fin 32,has (IntKind.u32.wrap (ishl .u32 1 (n.val:Int)-1)) v.val=decide (v.val<n.val):=by decide+kernel
def PEO (F : LI) (o : LI) : Prop := ∀ (j : Nat) (v u w : Nat), o[j]? = some (v : Int) → nb F v u = true → nb F v w = true → (u : Int) ∉ o.take (j + 1) → (w : Int) ∉ o.take (j + 1) → u ≠ w → nb F u w = true
def Lat (F L : LI) (o : LI) (i : Nat) : Prop := ∀ (j : Nat) (v : Nat), j < i → o[j]? = some (v : Int) → ∀ w, nb L v w = (nb F v w && decide ((w : Int) ∉ o.take (j + 1)))
inductive Via (F : LI) (gone : Nat → Prop) (u : Nat) : Nat → Prop
  | me : Via F gone u u
  | step {x y : Nat} : Via F gone u x → nb F x y = true → gone y → Via F gone u y
def Bhd (F : LI) (gone : Nat → Prop) (v w : Nat) : Prop := ∃ x, Via F gone v x ∧ nb F x w = true
def cnt (n k:Nat):Nat:=((List.range k).filter (λi=>n.testBit i)).length
theorem cnt_add (n a b:Nat):cnt n (a+b)=cnt n a+cnt (n>>>a) b:=by
 unfold cnt
 rw[List.range_add,List.filter_append,List.length_append,List.filter_map,List.length_map]
 congr 2
 apply List.filter_congr
 intro i _
 simp[Nat.testBit_shiftRight]
theorem cnt_mod (n k:Nat):cnt (n%2^k) k=cnt n k:=by
 unfold cnt
 congr 1
 apply List.filter_congr
 intro i hi
 have:=List.mem_range.1 hi
 rw[Nat.testBit_mod_two_pow];simp[this]
theorem elems_length (n:Nat):(Az (n:Int)).length=cnt n 32:=by
 unfold Az cnt
 rw[List.length_map]
 rfl
theorem pop_all :∀b:Fin 256,ET Fc (b.val:Int)=some ((cnt b.val 8:Nat):Int):=by decide+kernel
theorem pop_at {b:Nat}(h:b<256):ET Fc (b:Int)=some ((cnt b 8:Nat):Int):=pop_all ⟨b,h⟩
theorem cnt_le (n k:Nat):cnt n k≤k:=by
 unfold cnt
 exact Nat.le_trans (List.length_filter_le _ _) (by simp)
theorem wrap8 {x:Int}(h0:0≤x)(h:x<256):IntKind.u8.wrap x=x:=by
 simp[IntKind.wrap,IntKind.signed,IntKind.bits];omega
theorem OnesCount32_eq {s:Int}(h:VS s):D.q1 s=some ((Az s).length:Int):=by
 obtain⟨n,rfl,hn⟩:=h.nat
 have s24:BL .u32 (n:Int) 24=((n>>>24:Nat):Int):=shr_eq (n:Int) 24 h (by omega)
 have s16:BL .u32 (n:Int) 16=((n>>>16:Nat):Int):=shr_eq (n:Int) 16 h (by omega)
 have s8:BL .u32 (n:Int) 8=((n>>>8:Nat):Int):=shr_eq (n:Int) 8 h (by omega)
 have lt:∀k,n>>>k<4294967296:=λk=>by
  rw[Nat.shiftRight_eq_div_pow];exact Nat.lt_of_le_of_lt (Nat.div_le_self _ _) hn
 have a255:∀m:Nat,m<4294967296→iand .u32 (m:Int) 255=((m%256:Nat):Int):=λm hm=>by
  have:=EK hm (show (255:Nat)<4294967296 by omega)
  rw[show ((255:Nat):Int)=255 from rfl] at this
  rw[this]
  congr 1
  exact Nat.and_two_pow_sub_one_eq_mod (n:=8) m
 have h24:n>>>24<256:=by rw[Nat.shiftRight_eq_div_pow];exact Nat.div_lt_of_lt_mul (by simpa using hn)
 have ec:cnt n 32=cnt (n%256) 8+cnt (n>>>8%256) 8+cnt (n>>>16%256) 8+cnt (n>>>24) 8:=by
  rw[show (32:Nat)=8+(8+(8+8)) from rfl,cnt_add n 8,cnt_add _ 8,cnt_add _ 8]
  have e1:=cnt_mod n 8;have e2:=cnt_mod (n>>>8) 8;have e3:=cnt_mod (n>>>16) 8
  simp only[show (2:Nat)^8=256 from rfl] at e1 e2 e3
  rw[e1,e2,e3]
  simp only[←Nat.shiftRight_add,Nat.reduceAdd]
  omega
 unfold D.q1
 rw[s24,s16,s8,a255 _ (lt 16),a255 _ (lt 8),a255 n hn,pop_at h24,pop_at (Nat.mod_lt _ (by omega)),pop_at (Nat.mod_lt _ (by omega)),pop_at (Nat.mod_lt _ (by omega))]
 simp only[bs]
 have c1:=cnt_le (n>>>24) 8;have c2:=cnt_le (n>>>16%256) 8;have c3:=cnt_le (n>>>8%256) 8;have c4:=cnt_le (n%256) 8
 generalize cnt (n>>>24) 8=a at*;generalize cnt (n>>>16%256) 8=b at*;generalize cnt (n>>>8%256) 8=c at*;generalize cnt (n%256) 8=d at*
 rw[wrap8 (x:=(a:Int)+b) (by omega) (by omega),wrap8 (x:=(a:Int)+b+c) (by omega) (by omega),wrap8 (x:=(a:Int)+b+c+d) (by omega) (by omega),w64 (by omega) (by omega),elems_length,ec]
 congr 1
 omega
theorem Gt {s:Int}(h:VS s):D.C s=some ((Az s).length:Int):=by
 unfold D.C;rw[OnesCount32_eq h];rfl
theorem DT :∀{l m:LI},l.Nodup→(∀x∈l,x∈m)→l.length≤m.length
 |[],_,_,_=>by simp
 |x::l,m,h,hs=>by
  have h':=List.nodup_cons.1 h
  have hx:=hs x (by simp)
  have:=DT (l:=l) (m:=m.erase x) h'.2 (λy hy=>by
   have hne:y≠x:=λe=>h'.1 (e▸hy)
   exact(List.mem_erase_of_ne hne).2 (hs y (by simp[hy])))
  rw[List.length_erase_of_mem hx] at this
  have hp:0<m.length:=List.length_pos_of_mem hx
  simp;omega
theorem Inc.nodup {l:LI}(h:Inc l):l.Nodup:=List.Pairwise.imp (λh e=>by omega) h
theorem l1All_eq (n:Nat)(hn:n≤4294967295):D.D1 (n:Int)=some ((List.range n).map Int.ofNat):=by
 unfold D.D1
 refine(CT (λi=>((List.range i).map Int.ofNat,(i:Int))) n ((List.range n).map Int.ofNat) (by simp) (λi hi=> ?_) ?_).trans rfl
 ·simp only[dlt hi,cT,wq i]
  rw[Bp (by simp;omega),bs,List.range_succ,List.map_append];rfl
 ·simp only[Bx,cF]
def withV (bags : LL) (v : Int) : LI := ((List.range bags.length).filter fun b => decide (v ∈ bags.getD b [])).map Int.ofNat
def Lk (links : LL) (x y : Int) : Prop := [x, y] ∈ links ∨ [y, x] ∈ links
structure Closed (links : LL) (sel m : LI) : Prop where
  sub : ∀ x ∈ m, x ∈ sel
  first : ∀ x, sel.head? = some x → x ∈ m
  step : ∀ x ∈ m, ∀ y ∈ sel, Lk links x y → y ∈ m
def Conn (links : LL) (sel : LI) : Prop := ∀ m, Closed links sel m → ∀ x ∈ sel, x ∈ m
def LinkIn (n : Nat) (l : LI) : Prop := ∃ a b : Nat, l = [(a : Int), (b : Int)] ∧ a < b ∧ b < n
def Ec (r:LI)(u:Nat)(s:LL):LL:=(List.range r.length).foldl (λs i=>if(u:Int)<r.getD i 0 then s++[[(u:Int),r.getD i 0]] else s) s
theorem GE (r:LI)(u:Nat)(s0:LL)(h:s0.length+r.length≤4294967296){step:LL×Int→Option ((LL×Int) ⊕ LL)}
  (hstep:∀s (i:Nat) (hi:i<r.length),step (s,(i:Int))=cond (decide ((u:Int)<r[i])) ((AU s [[(u:Int),r[i]]]).bind λl=>some (.inl (l,((i+1:Nat):Int)))) (some (.inl (s,((i+1:Nat):Int)))))
  (hend:∀s,step (s,(r.length:Int))=some (.inr s)):Aw step (s0,0)=some (Ec r u s0)∧(Ec r u s0).length≤s0.length+r.length:=by
 have key:=loop_nat (step:=step) r.length (λs i=>(s,i)) (λs i=>if(u:Int)<r.getD i 0 then s++[[(u:Int),r.getD i 0]] else s) (λs=>s) (λi s=>s.length≤s0.length+i) s0 (by omega)
  (λs i hi hs=> ?_) (λs _=>hend s)
 ·exact key
 ·have hg:r.getD i 0=r[i]:=AW hi 0
  refine⟨?_,?_⟩
  ·rw[hstep s i hi,hg]
   by_cases hc:(u:Int)<r[i]
   ·rw[decide_eq_true hc,cT,Bp (by simp;omega),if_pos hc];rfl
   ·rw[decide_eq_false hc,cF,if_neg hc]
  ·rw[hg]
   split
   ·rw[List.length_append,List.length_singleton];omega
   ·omega
def CA (g:LL):LL:=(List.range g.length).foldl (λs u=>Ec (row g u) u s) []
theorem GS (g:LL)(hg:GOk g):D.e1 g=some (CA g):=by
 have h16:=hg.n16
 unfold D.e1
 have key:=loop_nat (ρ:=LL) (step:=(fun(s_288:LL×Int)=>match s_288 with|(l_291,x_296)=>cond (decide (x_296<(g.length:Int))) ((idx g x_296).bind λe_441=>(Aw (σ:=LL×Int) (ρ:=(LL)) (fun(s_508:LL×Int)=>match s_508 with|(l_511,x_516)=>cond (decide (x_516<(e_441.length:Int))) ((idx e_441 x_516).bind λe_551=>cond (decide (x_296<e_551)) ((AU l_511 ([([x_296,e_551]:LI)]:LL)).bind λl_569=>some (.inl (l_569,(IntKind.i64.wrap (x_516+1))))) (some (.inl (l_511,(IntKind.i64.wrap (x_516+1)))))) (some (.inr l_511))) (l_291,0)).bind λl_544=>some (.inl (l_544,(IntKind.i64.wrap (x_296+1))))) (some (.inr l_291))))
  g.length (λs i=>(s,i)) (λs u=>Ec (row g u) u s) (λs=>s) (λi s=>s.length≤16*i) [] (by simp) (λs u hu hs=> ?_) (λs _=> ?_)
 ·exact congrArg (λz=>Option.bind z λl=>some l) key.1
 ·have hr:=hg.row_len hu
  obtain⟨k1,k2⟩:=GE (row g u) u s (by omega) (step:=(fun(s_508:LL×Int)=>match s_508 with|(l_511,x_516)=>cond (decide (x_516<((row g u).length:Int))) ((idx (row g u) x_516).bind λe_551=>cond (decide ((u:Int)<e_551)) ((AU l_511 ([([(u:Int),e_551]:LI)]:LL)).bind λl_569=>some (.inl (l_569,(IntKind.i64.wrap (x_516+1))))) (some (.inl (l_511,(IntKind.i64.wrap (x_516+1)))))) (some (.inr l_511)))) (λs i hi=>by
    simp only[dlt hi,cT,AS hi,bs,wq i]) (λs=>by simp only[Bx,cF])
  refine⟨?_,by omega⟩
  simp only[dlt hu,cT,B4 hu,bs,wq u]
  exact(congrArg (λz=>Option.bind z _) k1).trans rfl
 ·simp only[Bx,cF]
theorem FL (g:LL)(hg:GOk g):D.O g=some (CA g):=by
 have h16:=hg.n16
 unfold D.O D.c
 have key:=loop_nat (ρ:=LL) (step:=(fun(s_482:LL×Int)=>match s_482 with|(l_485,x_490)=>(some (g.length:Int)).bind λy_731=>cond (decide (x_490<y_731)) ((Aw (σ:=LL×Int) (ρ:=(LL)) (fun(s_848:LL×Int)=>match s_848 with|(l_851,x_856)=>(idx g x_490).bind λe_914=>cond (decide (x_856<(e_914.length:Int))) ((idx g x_490).bind λe_921=>(idx e_921 x_856).bind λe_927=>cond (decide (x_490<e_927)) ((idx g x_490).bind λe_934=>(idx e_934 x_856).bind λe_940=>(AU l_851 ([([x_490,e_940]:LI)]:LL)).bind λl_957=>some (.inl (l_957,(IntKind.i64.wrap (x_856+1))))) (some (.inl (l_851,(IntKind.i64.wrap (x_856+1)))))) (some (.inr l_851))) (l_485,0)).bind λl_908=>some (.inl (l_908,(IntKind.i64.wrap (x_490+1))))) (some (.inr l_485))))
  g.length (λs i=>(s,i)) (λs u=>Ec (row g u) u s) (λs=>s) (λi s=>s.length≤16*i) [] (by simp) (λs u hu hs=> ?_) (λs _=> ?_)
 ·exact congrArg (λz=>Option.bind z λl=>some l) key.1
 ·have hr:=hg.row_len hu
  obtain⟨k1,k2⟩:=GE (row g u) u s (by omega) (step:=(fun(s_848:LL×Int)=>match s_848 with|(l_851,x_856)=>(idx g (u:Int)).bind λe_914=>cond (decide (x_856<(e_914.length:Int))) ((idx g (u:Int)).bind λe_921=>(idx e_921 x_856).bind λe_927=>cond (decide ((u:Int)<e_927)) ((idx g (u:Int)).bind λe_934=>(idx e_934 x_856).bind λe_940=>(AU l_851 ([([(u:Int),e_940]:LI)]:LL)).bind λl_957=>some (.inl (l_957,(IntKind.i64.wrap (x_856+1))))) (some (.inl (l_851,(IntKind.i64.wrap (x_856+1)))))) (some (.inr l_851)))) (λs i hi=>by
    simp only[B4 hu,dlt hi,cT,AS hi,bs,wq i]) (λs=>by simp only[B4 hu,bs,Bx,cF])
  refine⟨?_,by omega⟩
  simp only[bs,dlt hu,cT,wq u]
  exact(congrArg (λz=>Option.bind z _) k1).trans rfl
 ·simp only[bs,Bx,cF]
theorem GOk.sh2 {g:LL}(hg:GOk g):Sh2 g:=by
 have h16:=hg.n16
 exact⟨by unfold Sh;omega,λr hr=>by have:=(hg.mem0 hr).1;unfold Sh;omega⟩
theorem DL {g:LL}(hg:GOk g):gB g=true:=(gB_iff g).2 hg
theorem Ef (F:LI)(h:F.length≤16)(hV:∀u,u<F.length→VS (F.getD u 0)):D.g0 F=some (grow F):=by
 unfold D.g0
 refine(FD F (λs i=>(i,s)) Az (by omega) (λs i hi _=> ?_) (λs=> ?_)).trans rfl
 ·have:=hV i hi
  rw[AW hi] at this
  simp only[dlt hi,cT,AS hi,bs,numbers_eq _ this,wq i]
 ·simp only[Bx,cF]
theorem grow_len (F:LI):(grow F).length=F.length:=by simp[grow]
def RowOk (t N : LI) : Prop := (t.length = N.length ∧ ∀ k (hk : k < t.length), t[k] ∈ N ∧ t[k] ∉ t.take k) ∧ (0 < t.length → t.getD 0 0 = N.getD 0 0)
def cz :LI→LI→Int
 |[],[]=>0
 |[],_::_=> -1
 |_::_,[]=>1
 |a::x,b::y=>if a<b then-1 else if b<a then 1 else cz x y
def lk : Nat → LI → Int
  | 0, _ => 0
  | _ + 1, [] => 0
  | d + 1, a :: l => (a + 1) * 33 ^ d + lk d l
def lkey (s : Int) : Int := lk 32 (Az s)
def skey (s : Int) : Int := ((Az s).length : Int) * 33 ^ 32 + lkey s
theorem least_of {P:Nat→Prop}(h:∃j,P j):∃j,P j∧∀i,i<j→¬P i:=by
 obtain⟨j,hj⟩:=h
 induction j using Nat.strongRecOn with
 |ind j ih=>
  by_cases hc:∃i,i<j∧P i
  ·obtain⟨i,h1,h2⟩:=hc;exact ih i h1 h2
  ·exact⟨j,hj,λi hi hp=>hc ⟨i,hi,hp⟩⟩
theorem EQ (g:LL)(hg:GOk g){u:Nat}(hu:u<g.length)(w:Int):D.i g (u:Int) w=some (decide (w∈row g u)):=by
 unfold D.i
 rw[B4 hu,bs,FI _ _ (hg.sh2.row hu)];rfl
def B6 (f:Nat→Nat):Nat→Nat
 |0=>0
 |n+1=>B6 f n+f n
theorem Dp {f g:Nat→Nat}:∀{n:Nat},(∀i,i<n→f i=g i)→B6 f n=B6 g n
 |0,_=>rfl
 |n+1,h=>by simp only[B6];rw[Dp (n:=n) (λi hi=>h i (by omega)),h n (by omega)]
theorem sumN_add (f g:Nat→Nat):∀n,B6 (λi=>f i+g i) n=B6 f n+B6 g n
 |0=>rfl
 |n+1=>by simp only[B6];rw[sumN_add f g n];omega
theorem sumN_zero :∀n,B6 (λ_=>0) n=0
 |0=>rfl
 |n+1=>by simp only[B6];rw[sumN_zero n]
def bit (b:Bool):Nat:=if b then 1 else 0
theorem FA (p:Nat→Bool):∀n,((List.range n).filter p).length=B6 (λi=>bit (p i)) n
 |0=>rfl
 |n+1=>by
  rw[List.range_succ,List.filter_append,List.length_append,FA p n]
  simp only[B6,bit]
  cases h:p n<;>simp[h]
theorem sumN_tail {f : Nat → Nat} {n m : Nat} (h : n ≤ m) (hz : ∀ i, n ≤ i → f i = 0) : B6 f m = B6 f n := by
  induction m with
  | zero => obtain rfl : n = 0 := by omega
            rfl
  | succ m ih =>
    by_cases hm : n = m + 1
    · rw [hm]
    · simp only [B6]; rw [ih (by omega), hz m (by omega)]; rfl
theorem elems_sum {s:Int}{n:Nat}(hn:n≤32)(h:∀v,has s v=true→v<n):(Az s).length=B6 (λv=>bit (has s v)) n:=by
 unfold Az
 rw[List.length_map,FA]
 refine sumN_tail hn (λi hi=> ?_)
 unfold bit
 cases hc:has s i
 ·rfl
 ·have:=h i hc;omega
def S2 (n:Nat)(p:Nat→Nat→Bool):Nat:=B6 (λu=>B6 (λw=>bit (p u w)) n) n
theorem DO (s:Int):∀x∈Az s,0≤x:=λx hx=>by
 obtain⟨v,_,_,rfl⟩:=mem_elems.1 hx;omega
def Ee (n : Nat) : Int := IntKind.u32.wrap (ishl .u32 1 (n : Int) - 1)
theorem Fi (n:Nat):VS (Ee n):=VS.wrap _
theorem EI {n:Nat}(h:n≤16)(v:Nat):has (Ee n) v=decide (v<n):=by
 by_cases hv:v<32
 ·exact all_mask ⟨n,by omega⟩ ⟨v,hv⟩
 ·rw[Gn (Fi n) (by omega)];symm;simp;omega
theorem FR (F:LI):D.o0 F=some (Ee F.length):=by
 unfold D.o0 D.U1
 have:decide ((F.length:Int)<0)=false:=by simp
 rw[this];rfl
theorem l1There_eq {g:LL}(hg:GOk g){u:Nat}(hu:u<g.length):D.s g (u:Int)=some true:=by
 have:=hg.n16
 unfold D.s D.c
 simp only[bs,Ev]
 rw[w64 (by omega) (by omega)]
 simp;omega
theorem EC {g:LL}(hg:GOk g){u v:Nat}(hu:u<g.length)(ha:adj g u v):D.E0 g (u:Int) (v:Int)=some true:=by
 unfold D.E0
 rw[Cp g hg.sh2,DL hg]
 simp only[bs,cT,l1There_eq hg hu,l1There_eq hg (hg.lt hu ha),EQ g hg hu]
 rw[decide_eq_true (show (v:Int)∈row g u from ha)]
section
variable {g : LL} {o : LI} (hg : GOk g) (ho : OOk g o)
include hg ho
def mx (f:Nat→Int):Nat→Int
 |0=>0
 |n+1=>max (mx f n) (f n)
end
end Go.Sx

namespace Go.Sx
def dg (g:LL)(s:Int)(v:Int):Int:=((Az (iand .u32 (mk (row g v.toNat)) s)).length:Int)
theorem dg_nonneg (g:LL)(s v:Int):0≤dg g s v:=by unfold dg;omega
theorem idx_nets {g:LL}{v:Nat}(h:v<g.length):idx (g.map mk) (v:Int)=some (mk (row g v)):=by
 rw[AS (by simpa using h),List.getElem_map,Ea h]
theorem size_dg (g:LL)(s:Int)(v:Nat):D.C (iand .u32 (mk (row g v)) s)=some (dg g s (v:Int)):=by
 rw[Gt (VS.iand _ _)];rfl
theorem elems_head {s:Int}(h:VS s){k:Nat}(hk:has s k=true)(hm:∀v,v<k→has s v=false):∃t,Az s=(k:Int)::t:=by
 cases he:Az s with
 |nil=>have:=(BS h).2 hk;rw[he] at this;simp at this
 |cons x t=>
  refine⟨t,?_⟩
  congr 1
  have hx:x∈Az s:=by rw[he];simp
  obtain⟨v,_,h2,rfl⟩:=mem_elems.1 hx
  have hkm:=(BS h).2 hk
  rw[he] at hkm
  have hi:=Ch s
  rw[he] at hi
  rcases List.mem_cons.1 hkm with e|e
  ·exact e.symm
  ·have:=(List.pairwise_cons.1 hi).1 _ e
   have:=hm v (by omega)
   rw[this] at h2;cases h2
theorem DX {g:LL}(hg:GOk g):D.f0 g=some g:=by
 have h16:=hg.n16
 unfold D.f0
 refine(FD g (λs i=>(i,s)) (λr=>r) (by omega) (λs i hi _=> ?_) (λs=> ?_)).trans (by simp)
 ·simp only[dlt hi,cT,AS hi,bs,Gb _ (hg.sh2.2 _ (List.getElem_mem hi)),wq i]
 ·simp only[Bx,cF]
def CQ (F : LI) (K : Int) : Prop := ∀ u w, has K u = true → has K w = true → u ≠ w → nb F u w = true
def MX (F : LI) (n : Nat) (K : Int) : Prop := CQ F K ∧ ∀ w, w < n → has K w = false → ∃ u, has K u = true ∧ nb F u w = false
def In (n:Nat)(K:Int):Prop:=VS K∧∀w,has K w=true→w<n
theorem iand255 (a:Int):0≤iand .i64 a 255∧iand .i64 a 255≤255:=by
 have e:(BitVec.ofInt 64 255).toNat=255:=rfl
 have h:(BitVec.ofInt 64 a&&&BitVec.ofInt 64 255).toNat≤255:=by
  rw[BitVec.toNat_and,e];exact Nat.and_le_right
 have e2:iand .i64 a 255=(((BitVec.ofInt 64 a&&&BitVec.ofInt 64 255).toNat:Nat):Int):=by
  show IntKind.i64.wrap (((BitVec.ofInt 64 a&&&BitVec.ofInt 64 255).toNat:Nat):Int)=_
  exact w64 (by omega) (by omega)
 rw[e2];omega
theorem new_ok (code:LI)(h:∀x∈code,0≤x∧x≤255)(hl:code.length≤4096):∃z,D.x1 code=some (code,0,z)∧DK code 0:=by
 unfold D.x1
 refine⟨_,(Fo code (λs i=>(s,i)) (λs e=>iand .i64 (IntKind.i64.wrap ((IntKind.i64.wrap ((IntKind.i64.wrap (s*331))+(IntKind.i64.wrap e)))+11)) 1073741823) (λs=>s) (λ_=>True) _ trivial (λs i hi _=>⟨?_,trivial⟩) (λs _=> ?_)).trans rfl,h,hl,by omega,by omega⟩
 ·simp only[dlt hi,cT,AS hi,bs,wq i]
 ·simp only[Bx,cF]
def Dw {α:Type}(b:LI)(P:α→Prop)(e:Option (α×LI×Int×Int)):Prop:=∃y,e=some y∧(P y.1∧y.2.1=b∧DK b y.2.2.1)
theorem Dw.then {α β:Type}{b:LI}{P:α→Prop}{e:Option (α×LI×Int×Int)}{k:α×LI×Int×Int→Option β}{Q:β→Prop}(h:Dw b P e)
  (hk:∀a i z,P a→DK b i→∃y,k (a,b,i,z)=some y∧Q y):∃y,e.bind k=some y∧Q y:=by
 obtain⟨⟨a,b',i,z⟩,rfl,h1,h2,h3⟩:=h
 dsimp only at h1 h2 h3
 subst h2
 exact hk a i z h1 h3
theorem Fe {b:LI}{i:Int}(h:DK b i)(z:Int):Dw b (λr=>0≤r∧r≤255) (D.B b i z):=by
 obtain⟨h1,h2,h3,h4⟩:=h
 unfold D.B
 by_cases hi:i<b.length
 ·simp only[hi,decide_true,cT,DS h3 hi,bs]
  rw[w64 (x:=i+1) (by omega) (by omega)]
  exact⟨_,rfl,iand255 _,rfl,h1,h2,by dsimp only;omega,by dsimp only;omega⟩
 ·simp only[hi,decide_false,cF]
  exact⟨_,rfl,iand255 _,rfl,h1,h2,h3,h4⟩
theorem EA {b:LI}{i:Int}(h:DK b i)(z n:Int):Dw b (λr=>0≤r∧(0<n→r<n)) (D.a b i z n):=by
 unfold D.a
 by_cases h0:n≤0
 ·simp only[h0,decide_true,cT]
  exact⟨_,rfl,⟨by dsimp only;omega,λ_=>by omega⟩,rfl,h⟩
 ·have hn0:(n==0)=false:=by simp;omega
  simp only[h0,decide_false,cF,hn0]
  by_cases h1:n≤256
  ·simp only[h1,decide_true,cT]
   refine(Fe h z).then λr i1 z1 hr hk=> ?_
   have:=FM (x:=r) (n:=n) hr.1 (by omega)
   exact⟨_,rfl,⟨this.1,λ_=>this.2⟩,rfl,hk⟩
  ·simp only[h1,decide_false,cF]
   refine(Fe h z).then λr i1 z1 hr hk=> ?_
   refine(Fe hk z1).then λr2 i2 z2 hr2 hk=> ?_
   refine(Fe hk z2).then λr3 i3 z3 hr3 hk=> ?_
   refine(Fe hk z3).then λr4 i4 z4 hr4 hk=> ?_
   dsimp only
   rw[w64 (x:=r*16777216) (by omega) (by omega),w64 (x:=r2*65536) (by omega) (by omega),w64 (x:=r3*256) (by omega) (by omega),w64 (x:=r*16777216+r2*65536) (by omega) (by omega),w64 (x:=r*16777216+r2*65536+r3*256) (by omega) (by omega),w64 (x:=r*16777216+r2*65536+r3*256+r4) (by omega) (by omega)]
   have:=FM (x:=r*16777216+r2*65536+r3*256+r4) (n:=n) (by omega) (by omega)
   exact⟨_,rfl,⟨this.1,λ_=>this.2⟩,rfl,hk⟩
theorem BY {b:LI}{i:Int}(h:DK b i)(z n:Int)(hn:0<n):Dw b (λr=>0≤r∧r<n) (D.a b i z n):=by
 obtain⟨y,e,h1,h2⟩:=EA h z n
 exact⟨y,e,⟨h1.1,h1.2 hn⟩,h2⟩
theorem DF {b:LI}{i:Int}(h:DK b i)(z n:Int):Dw b (λ_:Bool=>True) (D.m b i z n):=by
 unfold D.m
 exact(EA h z n).then λr i1 z1 _ hk=>⟨_,rfl,trivial,rfl,hk⟩
theorem from_dw {b:LI}{i:Int}(h:DK b i)(z m n:Int):Dw b (λ_:Int=>True) (D.j1 b i z m n):=by
 unfold D.j1
 exact(EA h z _).then λr i1 z1 _ hk=>⟨_,rfl,trivial,rfl,hk⟩
theorem odd_dw {b:LI}{i:Int}(h:DK b i)(z:Int):Dw b (λ_:Int=>True) (D.B1 b i z):=by
 unfold D.B1
 refine(BY h z 10 (by omega)).then λr i1 z1 hr hk=> ?_
 rw[DS hr.1 (by simpa using hr.2),bs]
 exact⟨_,rfl,trivial,rfl,hk⟩
theorem min_ok (a b:Int):∃m,D.V a b=some m:=by
 unfold D.V
 by_cases h:a<b
 ·exact⟨a,by simp[h]⟩
 ·exact⟨b,by simp[h]⟩
theorem num_dw {b:LI}{i:Int}(h:DK b i)(z n:Int):Dw b (λ_:Int=>True) (D.F0 b i z n):=by
 unfold D.F0
 refine(DF h z 10).then λr i1 z1 _ hk=> ?_
 dsimp only
 cases r
 ·simp only[cF]
  refine(DF hk z1 2).then λr i1 z1 _ hk=> ?_
  dsimp only
  cases r
  ·simp only[cF]
   exact(EA hk z1 _).then λr i1 z1 _ hk=>⟨_,rfl,trivial,rfl,hk⟩
  ·obtain⟨m,e⟩:=min_ok n 4
   simp only[cT,e,bs]
   exact(EA hk z1 _).then λr i1 z1 _ hk=>⟨_,rfl,trivial,rfl,hk⟩
 ·simp only[cT]
  refine(odd_dw hk z1).then λq i1 z1 _ hk=> ?_
  refine(BY hk z1 4 (by omega)).then λr i1 z1 hr hk=> ?_
  dsimp only
  rw[DS hr.1 (by simpa using hr.2),bs]
  exact⟨_,rfl,trivial,rfl,hk⟩
theorem FK (n:Nat)(hn:n≤100):D.Y (n:Int)=some (List.replicate n []):=by
 unfold D.Y
 refine(CT (λi=>((i:Int),List.replicate i [])) n (List.replicate n []) (by simp) (λi hi=> ?_) ?_).trans rfl
 ·simp only[dlt hi,cT,wq i]
  rw[Bp (by simp;omega),bs,←List.replicate_succ']
 ·simp only[Bx,cF]
theorem Ga :D.C0=D.k:=rfl
theorem Of_deep (n:Nat)(h1:1≤n)(h16:n≤16):D.N1 (n:Int)=some (List.replicate n [],true):=by
 unfold D.N1
 have e1:(decide ((1:Int)≤(n:Int))&&decide ((n:Int)≤16))=true:=by simp;omega
 rw[Ev,bs,e1,Bool.not_true,cF,FK n (by omega)];rfl
theorem Path_deep (n:Nat)(h1:1≤n)(h16:n≤16):∃y,D.J0 (n:Int)=some y∧(GOk y.1∧y.1.length=n∧y.2=true):=by
 unfold D.J0
 rw[Of_deep n h1 h16,bs]
 simp only[Bool.and_true]
 refine AZ (λs=>∃v:Nat,s.1=(v:Int)∧1≤v∧v≤n∧GOk s.2∧s.2.length=n) (λs=>n-s.1.toNat) (λr=>GOk r∧r.length=n) ?_ ⟨1,rfl,by omega,h1,GOk.empty h1 h16,by simp⟩ ?_
 ·rintro⟨_,l⟩ ⟨v,rfl,hv1,hvn,hg,hl⟩
  dsimp only at hg hl ⊢
  by_cases hv:v<n
  ·obtain⟨g',k1,k2,k3,_⟩:=Dh hg (u:=v-1) (v:=v) (by omega) (by omega) (by omega)
   have e:IntKind.i64.wrap ((v:Int)-1)=((v-1:Nat):Int):=by rw[w64 (by omega) (by omega)];omega
   simp only[dlt hv,cT,e,Ga,k1,bs,wq v]
   exact⟨_,rfl,⟨v+1,rfl,by omega,by omega,k2,by dsimp only;omega⟩,by dsimp only;omega⟩
  ·obtain rfl:v=n:=by omega
   simp only[Bx,cF]
   exact⟨_,rfl,hg,hl⟩
 ·rintro r ⟨hg,hl⟩
  exact⟨_,rfl,hg,hl,rfl⟩
theorem Loop_deep (n:Nat)(h1:3≤n)(h16:n≤16):∃y,D.H1 (n:Int)=some y∧(GOk y.1∧y.1.length=n):=by
 unfold D.H1
 refine Cb _ (Path_deep n (by omega) h16) ?_
 rintro⟨g,t⟩ ⟨hg,hl,rfl⟩
 dsimp only at hg hl ⊢
 have e3:decide ((n:Int)<3)=false:=by simp;omega
 obtain⟨g',k1,k2,k3,_⟩:=Dh hg (u:=0) (v:=n-1) (by omega) (by omega) (by omega)
 have e:IntKind.i64.wrap ((n:Int)-1)=((n-1:Nat):Int):=by rw[w64 (by omega) (by omega)];omega
 rw[show ((0:Nat):Int)=0 from rfl] at k1
 simp only[Bool.not_true,Bool.false_or,e3,cF,Ga,e,k1,bs]
 exact⟨_,rfl,k2,by dsimp only;omega⟩
theorem DrawOf_deep {b:LI}{i:Int}(h:DK b i)(z:Int)(n:Nat)(h1:1≤n)(h16:n≤16):Dw b (λg=>GOk g∧g.length=n) (D.k1 b i z (n:Int)):=by
 unfold D.k1
 rw[FK n (by omega),bs]
 refine(BY h z 3 (by omega)).then λq i0 z0 hq k2=> ?_
 dsimp only
 refine AZ (λs=>∃v:Nat,s.1=(v:Int)∧1≤v∧v≤n∧s.2.1=b∧DK b s.2.2.1∧GOk s.2.2.2.2∧s.2.2.2.2.length=n) (λs=>n-s.1.toNat)
  (λr=>r.2.1=b∧DK b r.2.2.1∧GOk r.1∧r.1.length=n) ?_ ⟨1,rfl,by omega,h1,rfl,k2,GOk.empty h1 h16,by simp⟩ ?_
 ·rintro⟨_,b2,i,z,g⟩ ⟨v,rfl,g1,g2,rfl,hk,hg,hl⟩
  dsimp only at hk hg hl ⊢
  by_cases hv:v<n
  ·simp only[dlt hv,cT]
   refine AZ (λs=>∃u:Nat,s.1=(u:Int)∧u≤v∧s.2.1=b2∧DK b2 s.2.2.1∧GOk s.2.2.2.2∧s.2.2.2.2.length=n) (λs=>v-s.1.toNat)
    (λr=>r.1=b2∧DK b2 r.2.1∧GOk r.2.2.2∧r.2.2.2.length=n) ?_ ⟨0,rfl,by omega,rfl,hk,hg,hl⟩ ?_
   ·rintro⟨_,b2,i,z,g⟩ ⟨u,rfl,g3,rfl,hk,hg,hl⟩
    dsimp only at hk hg hl ⊢
    by_cases hu:u<v
    ·simp only[dlt hu,cT]
     refine(BY hk z 4 (by omega)).then λt i3 z3 ht hk'=> ?_
     dsimp only
     by_cases hc:t<IntKind.i64.wrap (1+q)
     ·obtain⟨g',k1,k3,k4,_⟩:=Dh hg (u:=u) (v:=v) (by omega) (by omega) (by omega)
      simp only[hc,decide_true,cT,Ga,k1,bs,wq u]
      exact⟨_,rfl,⟨u+1,rfl,by omega,rfl,hk',k3,by dsimp only;omega⟩,by dsimp only;omega⟩
     ·simp only[hc,decide_false,cF,wq u]
      exact⟨_,rfl,⟨u+1,rfl,by omega,rfl,hk',hg,hl⟩,by dsimp only;omega⟩
    ·obtain rfl:u=v:=by omega
     simp only[Bx,cF]
     exact⟨_,rfl,rfl,hk,hg,hl⟩
   ·rintro⟨b2,i3,z3,g⟩ ⟨rfl,hk',hg',hl'⟩
    dsimp only at hk' hg' hl' ⊢
    simp only[wq v]
    exact⟨_,rfl,⟨v+1,rfl,by omega,by omega,rfl,hk',hg',hl'⟩,by dsimp only;omega⟩
  ·obtain rfl:v=n:=by omega
   simp only[Bx,cF]
   exact⟨_,rfl,rfl,hk,hg,hl⟩
 ·rintro⟨g,b2,i3,z3⟩ ⟨rfl,hk,hg,hl⟩
  exact⟨_,rfl,⟨hg,hl⟩,rfl,hk⟩
theorem Draw_deep {b:LI}{i:Int}(h:DK b i)(z:Int):Dw b (λg=>GOk g∧g.length≤7) (D.C1 b i z):=by
 unfold D.C1
 refine(BY h z 6 (by omega)).then λq i0 z0 hq hk=> ?_
 dsimp only
 by_cases h0:q=0
 ·have e0:(q==0)=true:=by simp[h0]
  simp only[e0,cT]
  refine(BY hk z0 4 (by omega)).then λr i1 z1 hr hk=> ?_
  dsimp only
  have e:IntKind.i64.wrap (3+r)=((3+r.toNat:Nat):Int):=by rw[w64 (by omega) (by omega)];omega
  rw[e]
  refine Cb _ (Loop_deep (3+r.toNat) (by omega) (by omega)) ?_
  rintro⟨g,t⟩ ⟨hg,hl⟩
  exact⟨_,rfl,⟨hg,by dsimp only at hl ⊢;omega⟩,rfl,hk⟩
 ·have e0:(q==0)=false:=by simp[h0]
  simp only[e0,cF]
  by_cases h1:q=1
  ·have e1:(q==1)=true:=by simp[h1]
   simp only[e1,cT]
   refine(BY hk z0 6 (by omega)).then λr i1 z1 hr hk=> ?_
   dsimp only
   have e:IntKind.i64.wrap (1+r)=((1+r.toNat:Nat):Int):=by rw[w64 (by omega) (by omega)];omega
   rw[e]
   refine Cb _ (Path_deep (1+r.toNat) (by omega) (by omega)) ?_
   rintro⟨g,t⟩ ⟨hg,hl,_⟩
   exact⟨_,rfl,⟨hg,by dsimp only at hl ⊢;omega⟩,rfl,hk⟩
  ·have e1:(q==1)=false:=by simp[h1]
   simp only[e1,cF]
   refine(BY hk z0 7 (by omega)).then λr i1 z1 hr hk=> ?_
   dsimp only
   have e:IntKind.i64.wrap (1+r)=((1+r.toNat:Nat):Int):=by rw[w64 (by omega) (by omega)];omega
   rw[e]
   refine(DrawOf_deep hk z1 (1+r.toNat) (by omega) (by omega)).then λg i2 z2 hg hk=> ?_
   exact⟨_,rfl,⟨hg.1,by have:=hg.2;dsimp only;omega⟩,rfl,hk⟩
def Few (g:LL):Prop:=g.length≤17∧∀r∈g,r.length≤17
theorem Few.sh2 {g:LL}(h:Few g):Sh2 g:=⟨by have:=h.1;unfold Sh;omega,λr hr=>by have:=h.2 r hr;unfold Sh;omega⟩
theorem GOk.few {g:LL}(hg:GOk g):Few g:=by
 have h16:=hg.n16
 exact⟨by omega,λr hr=>by have:=(hg.mem0 hr).1;omega⟩
theorem Few.set {g:LL}(h:Few g)(k:Nat){r:LI}(hr:r.length≤17):Few (g.set k r):=by
 refine⟨by have:=h.1;simpa using this,λx hx=> ?_⟩
 rcases List.mem_or_eq_of_mem_set hx with hx|rfl
 ·exact h.2 x hx
 ·exact hr
theorem DrawAny_dw {b:LI}{i:Int}(h:DK b i)(z:Int):Dw b Few (D.a1 b i z):=by
 unfold D.a1
 refine(Draw_deep h z).then λg i0 z0 hg hk=> ?_
 have hn1:=hg.1.n1
 have hf:=hg.1.few
 refine(DF hk z0 12).then λt i1 z1 _ hk=> ?_
 dsimp only
 cases t
 ·exact⟨_,rfl,hf,rfl,hk⟩
 ·simp only[cT]
  refine(BY hk z1 g.length (by omega)).then λv i2 z2 hv hk=> ?_
  refine(BY hk z2 5 (by omega)).then λq i3 z3 hq hk=> ?_
  dsimp only
  have hrow:=DS (xs:=g) hv.1 hv.2
  have hmem:g[v.toNat]'(by omega)∈g:=List.getElem_mem _
  have hrl:=(hg.1.mem0 hmem).1
  rcases(show q=0∨q=1∨q=2∨q=3∨q=4 by omega) with rfl|rfl|rfl|rfl|rfl
  ·simp only[hrow,bs,show ((0:Int)==0)=true from rfl,cT]
   refine Cb (λy=>Few y.1∧y.2.1=b∧DK b y.2.2.1) ?_ (λy hy=>⟨_,rfl,hy⟩)
   refine(num_dw hk z3 16).then λw i4 z4 _ hk=> ?_
   dsimp only
   rw[Bp (by simp;omega),bs]
   exact⟨_,rfl,hf.set _ (by simp;omega),rfl,hk⟩
  ·simp only[hrow,bs,show ((1:Int)==0)=false from rfl,show ((1:Int)==1)=true from rfl,cT,cF]
   exact⟨_,rfl,hf.set _ (by simp),rfl,hk⟩
  ·simp only[show ((2:Int)==0)=false from rfl,show ((2:Int)==1)=false from rfl,show ((2:Int)==2)=true from rfl,cT,cF]
   refine(BY hk z3 2 (by omega)).then λw i4 z4 hw hk=> ?_
   dsimp only
   have e:IntKind.i64.wrap (16+w)=((16+w.toNat:Nat):Int):=by rw[w64 (by omega) (by omega)];omega
   rw[e,FK _ (by omega),bs]
   exact⟨_,rfl,⟨by simp;omega,λr hr=>by have:=List.eq_of_mem_replicate hr;subst this;simp⟩,rfl,hk⟩
  ·simp only[show ((3:Int)==0)=false from rfl,show ((3:Int)==1)=false from rfl,show ((3:Int)==2)=false from rfl,show ((3:Int)==3)=true from rfl,cT,cF]
   exact⟨_,rfl,⟨by simp,by simp⟩,rfl,hk⟩
  ·simp only[hrow,bs,show ((4:Int)==0)=false from rfl,show ((4:Int)==1)=false from rfl,show ((4:Int)==2)=false from rfl,show ((4:Int)==3)=false from rfl,show ((4:Int)==4)=true from rfl,cT,cF]
   exact⟨_,rfl,hf.set _ (by simp),rfl,hk⟩
theorem DrawOrder_dw {b:LI}{i:Int}(h:DK b i)(z:Int){g:LL}(hg:Few g):Dw b (λo:LI=>o.length≤17) (D.L0 b i z g):=by
 have hgl:=hg.1
 unfold D.L0
 rw[l1All_eq g.length (by omega),bs]
 refine AZ (λs=>s.1.length+s.2.1.length=g.length∧s.2.2.1=b∧DK b s.2.2.2.1) (λs=>s.1.length) (λr=>r.1.length≤17∧r.2.1=b∧DK b r.2.2.1) ?_ ⟨by simp,rfl,h⟩ ?_
 ·rintro⟨l,o,b2,i,z⟩ ⟨hl,rfl,hk⟩
  dsimp only at hl hk ⊢
  by_cases h0:0<l.length
  ·have e:decide ((0:Int)<(l.length:Int))=true:=by simp;omega
   simp only[e,cT]
   refine(BY hk z l.length (by omega)).then λv i2 z2 hv hk=> ?_
   dsimp only
   obtain⟨k,rfl⟩:∃k:Nat,v=k:=⟨v.toNat,by omega⟩
   have hkl:k<l.length:=by omega
   rw[AS hkl,bs,Bp (by simp;omega),bs,Eh (by omega),bs,wq k,E6 (by omega),bs,
    Gb _ (show Sh (l.take k) by unfold Sh;rw[List.length_take];omega),bs,Bp (by simp;omega),bs]
   refine⟨_,rfl,⟨by simp;omega,rfl,hk⟩,by simp;omega⟩
  ·have e:decide ((0:Int)<(l.length:Int))=false:=decide_eq_false (by omega)
   simp only[e,cF]
   exact⟨_,rfl,by dsimp only;omega,rfl,hk⟩
 ·rintro⟨o,b2,i2,z2⟩ ⟨ho,rfl,hk⟩
  dsimp only at ho hk ⊢
  refine(DF hk z2 15).then λt i3 z3 _ hk=> ?_
  dsimp only
  by_cases hc:(t&&decide ((0:Int)<(o.length:Int)))=true
  ·rw[hc,cT]
   have h0:0<o.length:=by simp at hc;omega
   refine(BY hk z3 o.length (by omega)).then λv i4 z4 hv hk=> ?_
   refine(from_dw hk z4 (-1) 7).then λw i5 z5 _ hk=> ?_
   dsimp only
   rw[DS hv.1 hv.2,bs]
   exact⟨_,rfl,by simpa using ho,rfl,hk⟩
  ·rw[Bool.not_eq_true] at hc
   rw[hc,cF]
   exact⟨_,rfl,ho,rfl,hk⟩
theorem elems_mk {n:Nat}{x:LI}(hn:n≤16)(hi:Inc x)(hr:∀z∈x,0≤z∧z<n):Az (mk x)=x:=by
 have h32:∀z∈x,0≤z∧z<32:=λz hz=>by have:=hr z hz;omega
 refine Inc.ext (Ch _) hi (λz=> ?_)
 rw[mem_elems]
 constructor
 ·rintro⟨v,_,h,rfl⟩
  rw[D9 h32] at h
  exact of_decide_eq_true h
 ·intro hz
  have:=h32 z hz
  refine⟨z.toNat,by omega,?_,by omega⟩
  rw[D9 h32,show ((z.toNat:Nat):Int)=z by omega]
  exact decide_eq_true hz
def Cq (g : LL) (x : LI) : Prop := ∀ u w : Nat, (u : Int) ∈ x → (w : Int) ∈ x → u ≠ w → adj g u w
def mis (F:LI)(n:Nat)(S:Int):Nat:=S2 n (λu w=>has S u&&(has S w&&(decide (w<u)&& !nb F w u)))
def cd (F:LI)(s v:Int):Int:=((Az (iand .u32 (F.getD v.toNat 0) s)).length:Int)
def cf (n:Nat)(F:LI)(s v:Int):Int:=(mis F n (iand .u32 (F.getD v.toNat 0) s):Int)
theorem vset_has_eq {s:Int}(h:VS s){v:Nat}(hv:v<32):D.i1 s (v:Int)=some (has s v):=by
 unfold D.i1
 have:decide ((v:Int)<0)=false:=by simp
 rw[this,cF,bitAt_eq h hv]
theorem spec_SetOk_eq (g:LL)(s:LI)(h:Sh2 g)(hs:Sh s):D.K1 g s=some (gB g&&Ed s g.length):=by
 unfold D.K1 D.c
 rw[Cp g h,bs]
 cases gB g
 ·rfl
 ·have:=h.1
  unfold Sh at this
  rw[cT,bs,l1Set_eq s _ hs (by omega) (by omega)];rfl
def ch (cs : LI) (i v : Nat) : Bool := has (cs.getD i 0) v
def Opn (cs : LI) (p : Int) (v : Nat) : Prop := (∃ i, i < cs.length ∧ has p i = true ∧ ch cs i v = true) ∧ ∃ i, i < cs.length ∧ has p i = false ∧ ch cs i v = true
def Ft (cs : LI) (p : Int) (k : Nat) : Prop := k < cs.length ∧ has p k = false ∧ ∀ v, Opn cs p v → ch cs k v = true
abbrev Pr :=Int×Int×Int
def joinF (n : Nat) (F : LI) (v : Nat) (S : Int) : LI := (List.range n).map fun u => ior .u32 (ior .u32 (F.getD u 0) (if u = v then S else 0)) (if has S u then ishl .u32 1 (v : Int) else 0)
theorem DN {n:Nat}(hn:n≤16){X:LI}(hl:X.length=n)(hV:∀u,u<n→VS (X.getD u 0)){v t:Nat}(hv:v<n)(ht:t<n)(hvt:v≠t):
  ∃y,D.F X (v:Int) (t:Int)=some y∧(y.length=n∧(∀u,u<n→VS (y.getD u 0))∧∀u w,u<n→nb y u w=(nb X u w||(decide (u=v)&&decide (w=t))||(decide (u=t)&&decide (w=v)))):=by
 have hx:∀k,k<n→idx X (k:Int)=some (X.getD k 0):=λk hk=>by rw[AS (by omega),AW (by omega)]
 refine⟨(X.set v (ior .u32 (X.getD v 0) (ishl .u32 1 (t:Int)))).set t (ior .u32 (X.getD t 0) (ishl .u32 1 (v:Int))),?_,by simp[hl],λu hu=> ?_,λu w hu=> ?_⟩
 ·unfold D.F
  have e1:idx (X.set v (ior .u32 (X.getD v 0) (ishl .u32 1 (t:Int)))) (t:Int)=some (X.getD t 0):=by
   rw[AS (by simp;omega),List.getElem_set_ne hvt]
   exact congrArg some (AW (by omega) 0).symm
  simp only[hx v hv,bs,Db,Int.toNat_natCast,e1]
 ·rw[List.getD_eq_getElem?_getD,List.getElem?_set]
  by_cases h:t=u
  ·rw[if_pos h,if_pos (by simp;omega)];exact VS.ior _ _
  ·rw[if_neg h,List.getElem?_set]
   by_cases h2:v=u
   ·rw[if_pos h2,if_pos (by omega)];exact VS.ior _ _
   ·rw[if_neg h2,←List.getD_eq_getElem?_getD];exact hV u hu
 ·unfold nb
  rw[List.getD_eq_getElem?_getD,List.getElem?_set]
  by_cases h:t=u
  ·subst h
   rw[if_pos rfl,if_pos (by simp;omega),Option.getD_some,DC (hV _ hu) (VS.ishl _ _),CV (by omega)]
   have:decide (t=v)=false:=decide_eq_false (λe=>hvt e.symm)
   rw[this];simp
  ·rw[if_neg h,List.getElem?_set]
   have e2:decide (u=t)=false:=decide_eq_false (λe=>h e.symm)
   by_cases h2:v=u
   ·subst h2
    rw[if_pos rfl,if_pos (by omega),Option.getD_some,DC (hV _ hu) (VS.ishl _ _),CV (by omega),e2];simp
   ·rw[if_neg h2,←List.getD_eq_getElem?_getD,e2,decide_eq_false (λe=>h2 e.symm)];simp
def Cn (ad:Nat→Nat→Prop)(S:Nat→Prop)(x y:Nat):Prop:=∀T:Nat→Prop,T x→(∀a b,T a→ad a b→S b→T b)→T y
def Joint (ad:Nat→Nat→Prop)(S:Nat→Prop):Prop:=∀x y,S x→S y→Cn ad S x y
abbrev Ad (F : LI) (a b : Nat) : Prop := nb F a b = true
abbrev El (s:Int)(x:Nat):Prop:=has s x=true
abbrev Mn (s:Int)(v x:Nat):Prop:=has s x=true∧x≠v
def Way (ad:Nat→Nat→Prop):List Nat→Prop
 |[]=>True
 |[_]=>True
 |a::b::l=>ad a b∧Way ad (b::l)
structure Hole (ad:Nat→Nat→Prop)(c:List Nat):Prop where
 len:4≤c.length
 nd:c.Nodup
 step:∀i (h:i+1<c.length),ad c[i] c[i+1]
 close:ad (c[c.length-1]'(by omega)) (c[0]'(by omega))
 no:∀i j (_:i+1<j) (hj:j<c.length),¬(i=0∧j=c.length-1)→¬ad (c[i]'(by omega)) c[j]
def NoHole (ad:Nat→Nat→Prop)(X:Nat→Prop):Prop:=∀c,Hole ad c→¬∀x∈c,X x
def Nr (ad:Nat→Nat→Prop)(v:Nat):Nat→Nat→Prop
 |0,_=>False
 |k+1,u=>u=v∨∃w,Nr ad v k w∧ad w u
section
variable {g : LL} (hg : GOk g)
include hg
theorem B5 {a b:Nat}(h:adj g a b):a<g.length:=by
 apply Classical.byContradiction
 intro hn
 unfold adj row at h
 rw[List.getD_eq_getElem?_getD,List.getElem?_eq_none (by omega)] at h
 simp at h
theorem Gu (a:Nat)(h:adj g a a):False:=hg.irr _ (B5 hg h) h
end
end Go.Sx

namespace Go.Sx
def Gm (E:Nat→Nat→Prop)(a b c d:Nat):Prop:=E c d∧((a=c∧¬E b d∧b≠d)∨(b=d∧¬E a c∧a≠c))
def Kl (E:Nat→Nat→Prop)(a b c d:Nat):Prop:=∀T:Nat→Nat→Prop,T a b→(∀p q r s,T p q→Gm E p q r s→T r s)→T c d
def AdW (g : LL) (all : Int) (a b : Nat) : Prop := adj g a b ∧ has all b = true
def Dst (g : LL) (all : Int) (v j u : Nat) : Prop := Nr (AdW g all) v (j + 1) u ∧ ¬ Nr (AdW g all) v j u
def Av (ad:Nat→Nat→Prop)(X:Nat→Prop)(c z:Nat):Prop:=X z∧z≠c∧¬ad c z
def Apt (ad:Nat→Nat→Prop)(X:Nat→Prop)(a b c:Nat):Prop:=
 X a∧X b∧X c∧a≠b∧a≠c∧b≠c∧¬ad a b∧¬ad a c∧¬ad b c∧Cn ad (Av ad X c) a b∧Cn ad (Av ad X b) a c∧Cn ad (Av ad X a) b c
def Ape (ad : Nat → Nat → Prop) (X S : Nat → Prop) (a b : Nat) : Prop :=
  X a ∧ X b ∧ a ≠ b ∧ ¬ ad a b ∧ (∃ k, S k ∧ Cn ad (Av ad X b) a k) ∧ ∃ k, S k ∧ Cn ad (Av ad X a) b k
section
variable {g : LL} (hg : GOk g)
include hg
end
end Go.Sx

namespace Go.Sx
def atp (cs o : LI) (k v : Nat) : Bool := ch cs (o.getD k 0).toNat v
theorem elems_more {n:Nat}{p:Int}{k:Nat}(hn:n≤16)(hp:In n p)(hk:k<n)(h:has p k=false):(Az (ior .u32 p (ishl .u32 1 (k:Int)))).length=(Az p).length+1:=by
 have h1:((k:Int)::Az p).Nodup:=List.nodup_cons.2 ⟨λhx=>(by rw[BS hp.1,h] at hx;cases hx),List.Pairwise.imp (λh e=>by omega) (Ch _)⟩
 have h2:(Az (ior .u32 p (ishl .u32 1 (k:Int)))).Nodup:=List.Pairwise.imp (λh e=>by omega) (Ch _)
 have he:∀w,has (ior .u32 p (ishl .u32 1 (k:Int))) w=(has p w||decide (w=k)):=λw=>by rw[DC hp.1 (VS.ishl _ _),CV (by omega)]
 have hperm:=(List.perm_ext_iff_of_nodup h2 h1).2 (λx=>by
  rw[mem_elems,List.mem_cons,mem_elems]
  constructor
  ·rintro⟨v,a,b,rfl⟩
   rw[he,Bool.or_eq_true,decide_eq_true_eq] at b
   rcases b with b|rfl
   ·exact .inr ⟨v,a,b,rfl⟩
   ·exact .inl rfl
  ·rintro(rfl|⟨v,a,b,rfl⟩)
   ·exact⟨k,by omega,by rw[he];simp,rfl⟩
   ·exact⟨v,a,by rw[he,b];rfl,rfl⟩)
 rw[hperm.length_eq];rfl
inductive Pick (n:Nat):Nat→Nat→Int→Int→Prop
 |done {a:Nat} {c:Int}:Pick n a 0 c c
 |more {a k v:Nat} {c t:Int}:a≤v→v<n→Pick n (v+1) k (ior .u32 c (ishl .u32 1 (v:Int))) t→Pick n a (k+1) c t
theorem Pick.le {n a k:Nat}{c t:Int}(h:Pick n a k c t):k=0∨a+k≤n:=by
 induction h with
 |done=>exact .inl rfl
 |more h1 h2 _ ih=>right;rcases ih with h|h<;>omega
def insAt (l:LI)(xs:LL):Nat:=xs.findIdx λx=>decide (rowKey l<rowKey x)
def ins (l:LI)(xs:LL):LL:=xs.take (insAt l xs)++l::xs.drop (insAt l xs)
end Go.Sx



namespace Go.Sx
def nearS (F : LI) (p : Pr) : Int := if p.2.2 = 2 then ishl .u32 1 p.2.1 else if p.2.2 = 3 then F.getD p.2.1.toNat 0 else if p.2.2 = 4 then ior .u32 (F.getD p.2.1.toNat 0) (ishl .u32 1 p.2.1) else 0
def Fs (n : Nat) : List Pr → LI
  | [] => List.replicate n 0
  | p :: l => joinF n (Fs n l) p.1.toNat (nearS (Fs n l) p)
def vsOf (l : List Pr) : LI := l.map (·.1)
def Lsts (g : LL) (K : Int) : Prop := In g.length K ∧ (∀ u w, has K u = true → has K w = true → ¬ adj g u w) ∧ ∀ w, w < g.length → has K w = true ∨ ∃ v, has K v = true ∧ adj g v w
theorem makeD_nil (n:Nat)(hn:n≤4294967296):Dd (([]:LI):LI) (n:Int) (n:Int)=some (List.replicate n []):=FG (by omega) (by omega)
theorem row_more (g:LL)(v:Nat):row (g++[[]]) v=row g v:=by
 unfold row
 rw[List.getD_eq_getElem?_getD,List.getD_eq_getElem?_getD]
 by_cases h:v<g.length
 ·rw[List.getElem?_append_left h]
 ·rw[List.getElem?_append_right (by omega),List.getElem?_eq_none (show g.length≤v by omega)]
  by_cases h2:v-g.length=0
  ·rw[h2];rfl
  ·rw[List.getElem?_eq_none (by simp;omega)]
theorem GOk.more {g:LL}(hg:GOk g)(h16:g.length<16):GOk (g++[[]]):=by
 have hl:(g++[[]]).length=g.length+1:=by simp
 have hadj:∀u v,adj (g++[[]]) u v↔adj g u v:=λu v=>by unfold adj;rw[row_more]
 have hn:∀u v,adj g u v→u<g.length:=λu v h=>by
  apply Classical.byContradiction
  intro hc
  unfold adj row at h
  rw[List.getD_eq_getElem?_getD,List.getElem?_eq_none (by omega)] at h
  simp at h
 refine⟨by omega,by omega,λv _=> ?_,λv _ h=> ?_,λu v _ h=> ?_⟩
 ·rw[row_more]
  by_cases hv:v<g.length
  ·exact⟨(hg.rows v hv).1,λx hx=>by have:=(hg.rows v hv).2 x hx;omega⟩
  ·unfold row
   rw[List.getD_eq_getElem?_getD,List.getElem?_eq_none (by omega)]
   exact⟨by simp[Inc],by simp⟩
 ·rw[hadj] at h;exact hg.irr v (hn v v h) h
 ·rw[hadj] at h ⊢;exact hg.sym u v (hn u v h) h
theorem AddedVertex_ok {g:LL}(hg:GOk g)(h16:g.length<16){x:LI}(hx:SetOf x (g.length:Int)):
  ∃y,D.K0 g x=some y∧(GOk y.1∧y.1.length=g.length+1∧∀u w:Nat,adj y.1 u w↔adj g u w∨(u=g.length∧(w:Int)∈x)∨(w=g.length∧(u:Int)∈x)):=by
 have hxl:=hx.length_le (by omega)
 unfold D.K0 D.c
 rw[spec_SetOk_eq g x hg.sh2 (by unfold Sh;omega),DL hg,(EH _ _).2 hx,bs]
 simp only[Bool.and_self,Bool.not_true,cF,bs]
 rw[show ((g.length:Int)==16)=false by simp;omega,cF,DX hg,bs,Bp (by simp;omega),bs]
 refine AZ (λs=>∃i:Nat,s.1=(i:Int)∧i≤x.length∧GOk s.2∧s.2.length=g.length+1∧∀u w:Nat,adj s.2 u w↔adj g u w∨(u=g.length∧(w:Int)∈x.take i)∨(w=g.length∧(u:Int)∈x.take i)) (λs=>x.length-s.1.toNat)
  (λG=>GOk G∧G.length=g.length+1∧∀u w:Nat,adj G u w↔adj g u w∨(u=g.length∧(w:Int)∈x)∨(w=g.length∧(u:Int)∈x)) ?_ ⟨0,rfl,by omega,hg.more h16,by simp,λu w=>by unfold adj;rw[row_more];simp⟩ (λG hG=>⟨_,rfl,hG⟩)
 ·rintro⟨_,G⟩ ⟨i,rfl,hi,hG,hGl,hA⟩
  dsimp only at hG hGl hA ⊢
  by_cases hil:i<x.length
  ·skip
   have hr:=hx.2 _ (List.getElem_mem hil)
   obtain⟨u,hu⟩:∃u:Nat,x[i]=(u:Int):=⟨x[i].toNat,by omega⟩
   obtain⟨G',e,k1,k2,k3⟩:=Dh hG (u:=u) (v:=g.length) (by omega) (by omega) (by omega)
   rw[dlt hil,cT,AS hil,bs,hu,e,bs,wi (by omega)]
   refine⟨_,rfl,⟨i+1,rfl,by omega,k1,by dsimp only;omega,λa b=> ?_⟩,by dsimp only;omega⟩
   dsimp only
   rw[k3,hA,List.take_succ_eq_append_getElem hil,hu]
   simp only[List.mem_append,List.mem_singleton,Int.natCast_inj]
   constructor
   ·rintro((h|⟨h1,h2⟩|⟨h1,h2⟩)|⟨h1,h2⟩|⟨h1,h2⟩)
    ·exact .inl h
    ·exact .inr (.inl ⟨h1,.inl h2⟩)
    ·exact .inr (.inr ⟨h1,.inl h2⟩)
    ·exact .inr (.inr ⟨h2,.inr h1⟩)
    ·exact .inr (.inl ⟨h1,.inr h2⟩)
   ·rintro(h|⟨h1,h2|h2⟩|⟨h1,h2|h2⟩)
    ·exact .inl (.inl h)
    ·exact .inl (.inr (.inl ⟨h1,h2⟩))
    ·exact .inr (.inr ⟨h1,h2⟩)
    ·exact .inl (.inr (.inr ⟨h1,h2⟩))
    ·exact .inr (.inl ⟨h2,h1⟩)
  ·obtain rfl:i=x.length:=by omega
   simp only[Bx,cF]
   rw[List.take_length] at hA
   exact⟨_,rfl,hG,hGl,hA⟩
theorem l2Of_ok {g:LL}(hg:GOk g){L:LI}(h1:1≤L.length)(h16:L.length≤16)(hr:∀x∈L,0≤x∧x<g.length):
  ∃y,D.L1 g L=some y∧(GOk y∧y.length=L.length∧∀i j,adj y i j↔i<L.length∧j<L.length∧adj g (L.getD i 0).toNat (L.getD j 0).toNat):=by
 have hat:∀i (hi:i<L.length),∃v:Nat,L[i]=(v:Int)∧v<g.length∧(L.getD i 0).toNat=v:=λi hi=>by
  have:=hr _ (List.getElem_mem hi)
  exact⟨L[i].toNat,by omega,by omega,by rw[AW hi]⟩
 unfold D.L1
 rw[l1Empty_eq _ h16,bs]
 refine AZ (λs=>∃v:Nat,s.1=(v:Int)∧v≤L.length∧GOk s.2∧s.2.length=L.length∧∀x y,adj s.2 x y↔(x<v∧y<v)∧adj g (L.getD x 0).toNat (L.getD y 0).toNat) (λs=>L.length-s.1.toNat)
  (λy=>GOk y∧y.length=L.length∧∀i j,adj y i j↔i<L.length∧j<L.length∧adj g (L.getD i 0).toNat (L.getD j 0).toNat) ?_ ⟨0,rfl,by omega,GOk.empty h1 h16,by simp,λx y=>⟨λh=> ?_,λh=>by omega⟩⟩ (λr hr=>⟨r,rfl,hr⟩)
 ·rintro⟨_,G⟩ ⟨v,rfl,hv,hG,hl,hA⟩
  dsimp only at hG hl hA ⊢
  by_cases hvn:v<L.length
  ·rw[dlt hvn,cT]
   obtain⟨a,ea,han,ea'⟩:=hat v hvn
   refine AZ (λs=>∃t:Nat,s.1=(t:Int)∧t≤v∧GOk s.2∧s.2.length=L.length∧∀x y,adj s.2 x y↔((x<v∧y<v)∨(x=v∧y<t)∨(y=v∧x<t))∧adj g (L.getD x 0).toNat (L.getD y 0).toNat) (λs=>v-s.1.toNat)
    (λr=>GOk r∧r.length=L.length∧∀x y,adj r x y↔(x<v+1∧y<v+1)∧adj g (L.getD x 0).toNat (L.getD y 0).toNat) ?_ ⟨0,rfl,by omega,hG,hl,λx y=>by rw[hA];simp⟩ (λr hr=>⟨_,rfl,⟨v+1,wi (by omega),by omega,hr⟩,?_⟩)
   ·rintro⟨_,G⟩ ⟨t,rfl,ht,hG,hl,hA⟩
    dsimp only at hG hl hA ⊢
    by_cases htv:t<v
    ·have htL:t<L.length:=by omega
     obtain⟨b,eb,hbn,eb'⟩:=hat t htL
     rw[dlt htv,cT,AS hvn,bs,AS htL,bs,ea,eb,EQ g hg han,bs,wq t]
     by_cases hc:(b:Int)∈row g a
     ·have c1:adj g a b:=hc
      have c2:adj g b a:=hg.sym a b han c1
      obtain⟨G',e,k1,k2,k3⟩:=Dh hG (u:=t) (v:=v) (by omega) (by omega) (by omega)
      rw[decide_eq_true hc,cT,e,bs]
      refine⟨_,rfl,⟨t+1,rfl,by omega,k1,by dsimp only;omega,λx y=> ?_⟩,by dsimp only;omega⟩
      dsimp only
      rw[k3,hA]
      constructor
      ·rintro(⟨h3,h4⟩|⟨rfl,rfl⟩|⟨rfl,rfl⟩)
       ·exact⟨by omega,h4⟩
       ·exact⟨by omega,by rw[ea',eb'];exact c2⟩
       ·exact⟨by omega,by rw[ea',eb'];exact c1⟩
      ·rintro⟨h3,h4⟩
       by_cases d1:x=v∧y=t
       ·exact .inr (.inr d1)
       ·by_cases d2:x=t∧y=v
        ·exact .inr (.inl d2)
        ·exact .inl ⟨by omega,h4⟩
     ·have c1:¬adj g a b:=hc
      have c2:¬adj g b a:=λh=>c1 (hg.sym b a hbn h)
      rw[decide_eq_false hc,cF]
      refine⟨_,rfl,⟨t+1,rfl,by omega,hG,hl,λx y=> ?_⟩,by dsimp only;omega⟩
      dsimp only
      rw[hA]
      constructor
      ·rintro⟨h3,h4⟩;exact⟨by omega,h4⟩
      ·rintro⟨h3,h4⟩
       refine⟨?_,h4⟩
       by_cases d1:x=v∧y=t
       ·obtain⟨rfl,rfl⟩:=d1
        rw[ea',eb'] at h4;exact absurd h4 c1
       ·by_cases d2:x=t∧y=v
        ·obtain⟨rfl,rfl⟩:=d2
         rw[ea',eb'] at h4;exact absurd h4 c2
        ·omega
    ·obtain rfl:t=v:=by omega
     simp only[Bx,cF]
     refine⟨_,rfl,hG,hl,λx y=> ?_⟩
     rw[hA]
     constructor
     ·rintro⟨h3,h4⟩;exact⟨by omega,h4⟩
     ·rintro⟨h3,h4⟩
      refine⟨?_,h4⟩
      by_cases d:x=t∧y=t
      ·obtain⟨rfl,rfl⟩:=d
       rw[ea'] at h4;exact absurd h4 (hg.irr a han)
      ·omega
   ·dsimp only
    rw[wi (by omega)];omega
  ·obtain rfl:v=L.length:=by omega
   simp only[Bx,cF]
   refine⟨_,rfl,hG,hl,λx y=> ?_⟩
   rw[hA,and_assoc]
 ·unfold adj row at h
  rw[List.getD_eq_getElem?_getD,List.getElem?_replicate] at h
  split at h<;>simp at h
end Go.Sx
