/- Parts. -/
import Derived.Test.YtaddadondmaeaaaDoorSb3
import Derived.Test.YtaddadondmaeaaaDoorProg
import Derived.KernelRfl
set_option linter.unusedVariables false
set_option linter.unusedSimpArgs false
set_option linter.unusedSectionVars false
set_option maxRecDepth 100000
namespace Go.Proofs.YtaddadondmaeaaaDoor
open Go Go.Sx
open Go.Proofs.Tryd Go.Proofs.YtaddadondmaeaaaDoor.Tryd IntKind
variable {W w : World} {G : GH} {H : List Itm}
theorem Ag31 :Agg prog 31 3:=⟨isAgg31,sizeOf31⟩
theorem Wk.Y {b1 b2 b3 b3s:Nat}{v3s_0 v3s_1 v3s_2 v3s_3:Value}{it3s_3:Itm}{b4:Nat}{aa:Value}{b5:Nat}{ab:Value}{x0 ac ad:Int}{x3s_0 x3s_1:LI}{x3s_2:(List (Int×Int))}{x3s_3:LL}{ae af:LI}(hW:B4 W)(m:Mem W G w (ib b1 83 [(.int .u32 ac)]::ib b2 2 [(iv ad)]::ib b3 78 [(pb b3s)]::ib b3s 80 [v3s_0,v3s_1,v3s_2,v3s_3]::it3s_3::ib b4 49 [aa]::ib b5 49 [ab]::H))(h3s_0:RSl (RI .u32) G v3s_0 x3s_0)(h3s_1:R1 G v3s_1 x3s_1)(h3s_2:RSr P2 G v3s_2 x3s_2)(o3s_3:Ow R1 61 G it3s_3 v3s_3 x3s_3)(ag:RSl (RI .u32) G aa ae)(ah:RSl (RI .u32) G ab af){y:Bool×(LI)×(LL)}(hd:D.Y x0 ac ad x3s_0 x3s_1 x3s_2 x3s_3 ae af=some y):
  Calls prog 50 #[(.int .u32 x0),(pb b1),(pb b2),(pb b3),(pb b4),(pb b5)] w (Res W G H (λG' Ho v=>∃r0:Value,∃r1:Value,∃i1:Itm,Ho=[ib b1 83 [(.int .u32 ac)],ib b2 2 [(iv ad)],ib b3 78 [(pb b3s)],ib b3s 80 [v3s_0,r0,v3s_2,r1],i1,ib b4 49 [aa],ib b5 49 [ab]]∧v=(.bool y.1)∧R1 G' r0 y.2.1∧Ow R1 61 G' i1 r1 y.2.2)):=by
 refine Aw (args:=[(.int .u32 x0),(pb b1),(pb b2),(pb b3),(pb b4),(pb b5)]) (N:=63) [.tmp 7] func50 Z Z (lb Z) Z λa f=> ?_
 unfold D.Y at hd
 refine Ae ?_
 refine Ac f Z λa f=>Aa (Ag (Ae ?_))
 refine AE 0 0 m Pl83 f Z Z Z Z λa f=>Ab f Z λa f=>Ak f Z Z CL λa f=>Ak f Z Z CF λa f=>Ab f Z λa f=> ?_
 have⟨ai,aj,hd⟩:=bind_some hd
 refine Be 10 (λa w=>∃ak,GLe G ak∧Mem W ak w (ib b1 83 [(.int .u32 ac)]::ib b2 2 [(iv ad)]::ib b3 78 [(pb b3s)]::ib b3s 80 [v3s_0,v3s_1,v3s_2,v3s_3]::it3s_3::ib b4 49 [aa]::ib b5 49 [ab]::H)∧Fr a 63 [(0,(.int .u32 x0)),(1,(pb b1)),(2,(pb b2)),(3,(pb b3)),(4,(pb b4)),(5,(pb b5)),(10,(.int .u32 ac)),(11,(.int .u32 x0)),(12,(.int .u32 (iand .u32 ac x0))),(13,(.bool ((iand .u32 ac x0) !=0))),(14,(.bool ((iand .u32 ac x0) !=0))),(24,(.bool ai))]) ?_ ?_
 ·rcases Af aj with⟨al,aj⟩|⟨al,aj⟩
  ·refine As f al λa f=> ?_
   refine As f al λa f=>As f al λa f=>Bv f Z Z Z λa f=>Bv f Z Z Z λa f=>Bv f Z Z Z λa f=>Bv f Z Z Z λa f=>Bv f Z Z Z λa f=>As f al λa f=>l_o f (AK (f.e Z) al (f.e Z)) λa f=> ?_
   obtain rfl:=sj aj
   exact⟨_,gr,m,f.k Z⟩
  ·refine Ar f al ?_
   refine AE 1 0 m Pl2 f Z Z Z Z λa f=>Ar f al ?_
   refine Ak f Z Z Bj λa f=>Ar f al ?_
   refine Ab f Z λa f=> ?_
   have⟨am,an,aj⟩:=bind_some aj
   refine Be 6 (λa w=>∃ao,GLe G ao∧Mem W ao w (ib b1 83 [(.int .u32 ac)]::ib b2 2 [(iv ad)]::ib b3 78 [(pb b3s)]::ib b3s 80 [v3s_0,v3s_1,v3s_2,v3s_3]::it3s_3::ib b4 49 [aa]::ib b5 49 [ab]::H)∧Fr a 63 [(0,(.int .u32 x0)),(1,(pb b1)),(2,(pb b2)),(3,(pb b3)),(4,(pb b4)),(5,(pb b5)),(10,(.int .u32 ac)),(11,(.int .u32 x0)),(12,(.int .u32 (iand .u32 ac x0))),(13,(.bool ((iand .u32 ac x0) !=0))),(14,(.bool ((iand .u32 ac x0) !=0))),(15,(iv ad)),(16,(.bool (ad==2))),(17,(.bool (ad==2))),(23,(.bool am))]) ?_ ?_
   ·rcases Af an with⟨ap,an⟩|⟨ap,an⟩
    ·refine Ar f ap ?_
     refine AE 0 0 m Pl83 f Z Z Z Z λa f=>Ar f ap ?_
     have⟨aq,ar,an⟩:=bind_some an
     refine A4 f Z call51 (Wk.B hW m ar) λau w av m a f=>Ar f ap ?_
     refine Ab f Z λa f=>Ar f ap ?_
     have⟨aw,ax,an⟩:=bind_some an
     refine A4 f Z call51 (Wk.B hW m ax) λay w az m a f=>Ar f ap ?_
     refine Ak f Z Z Cu λa f=>Ar f al ?_
     refine l_o f (AK (f.e Z) ap (f.e Z)) λa f=> ?_
     obtain rfl:=sj an
     exact⟨_,(gt av az),m,f.k Z⟩
    ·refine As f ap λa f=> ?_
     refine As f ap λa f=>As f ap λa f=>As f ap λa f=>As f ap λa f=>Ar f al ?_
     refine l_o f (AL (f.e Z) ap (f.e Z)) λa f=> ?_
     obtain rfl:=sj an
     exact⟨_,gr,m,f.k Z⟩
   ·rintro a w ⟨ao,aA,m,f⟩
    refine l_o f (AL (f.e Z) al (f.e Z)) λa f=> ?_
    obtain rfl:=sj aj
    exact⟨_,aA,m,f.k Z⟩
 ·rintro a w ⟨ak,aB,m,f⟩
  have h3s_0:=rd1 aB h3s_0
  have h3s_1:=rd1 aB h3s_1
  have h3s_2:=RSr.mono trivial _ _ _ _ aB h3s_2
  have o3s_3:=Ow.mono (RSl.mono (RI.mono _)) aB o3s_3
  have ag:=rd1 aB ag
  have ah:=rd1 aB ah
  refine Aa ?_
  rcases Af hd with⟨aC,hd⟩|⟨aC,hd⟩
  ·refine Al f Z aC ?_
   refine Ae ?_
   refine Ac f Z λa f=>Aa ?_
   refine Am ?_
   obtain rfl:=sj hd
   exact⟨[(.bool false)],f.g Z,f.d,_,[ib b1 83 [(.int .u32 ac)],ib b2 2 [(iv ad)],ib b3 78 [(pb b3s)],ib b3s 80 [v3s_0,v3s_1,v3s_2,v3s_3],it3s_3,ib b4 49 [aa],ib b5 49 [ab]],aB,m,_,_,_,Z,Z,h3s_1,o3s_3⟩
  ·refine Aj f Z aC ?_
   refine Ao ?_
   refine Ag ?_
   refine Bc 6 AW (by kernel_rfl) m ?_
   refine Bd 0 6 2 CI Z Z Z f Z λa f=>Bd 1 6 0 Pl83 Z Z Z f Z λa f=>Ay 3 6 Z f Z λa f=>A3 2 Z λaD w aE m aF aF=> ?_
   have h3s_0:=rd1 aE h3s_0
   have h3s_2:=RSr.mono trivial _ _ _ _ aE h3s_2
   have o3s_3:=Ow.mono (RSl.mono (RI.mono _)) aE o3s_3
   have ag:=rd1 aE ag
   have ah:=rd1 aE ah
   have⟨aG,aH,hd⟩:=bind_some hd
   refine Az f Z call52 (Wk.t hW m aH) λaI aJ aK w aL m aM a f=> ?_
   obtain⟨aN,aO,rfl,rfl,aP⟩:=aM
   have h3s_0:=rd1 aL h3s_0
   have h3s_2:=RSr.mono trivial _ _ _ _ aL h3s_2
   have o3s_3:=Ow.mono (RSl.mono (RI.mono _)) aL o3s_3
   have ag:=rd1 aL ag
   have ah:=rd1 aL ah
   refine Aa ?_
   refine aF aJ [aO] _ _ aL m ?_
   refine A3 4 Z λaQ w aR m aS aS=> ?_
   have aP:=od1 aR aP
   have h3s_0:=rd1 aR h3s_0
   have h3s_2:=RSr.mono trivial _ _ _ _ aR h3s_2
   have o3s_3:=Ow.mono (RSl.mono (RI.mono _)) aR o3s_3
   have ag:=rd1 aR ag
   have ah:=rd1 aR ah
   have⟨aT,aU,hd⟩:=bind_some hd
   refine Az f Z call52 (Wk.t hW m aU) λaV aW aX w aY m aZ a f=> ?_
   obtain⟨a0,a1,rfl,rfl,a2⟩:=aZ
   have aP:=od1 aY aP
   have h3s_0:=rd1 aY h3s_0
   have h3s_2:=RSr.mono trivial _ _ _ _ aY h3s_2
   have o3s_3:=Ow.mono (RSl.mono (RI.mono _)) aY o3s_3
   have ag:=rd1 aY ag
   have ah:=rd1 aY ah
   refine Aa ?_
   refine aS aW [a1,aO] _ _ aY m ?_
   refine A3 5 Z λa3 w a4 m a5 a5=> ?_
   have a2:=od1 a4 a2
   have aP:=od1 a4 aP
   have h3s_0:=rd1 a4 h3s_0
   have h3s_2:=RSr.mono trivial _ _ _ _ a4 h3s_2
   have o3s_3:=Ow.mono (RSl.mono (RI.mono _)) a4 o3s_3
   have ag:=rd1 a4 ag
   have ah:=rd1 a4 ah
   have⟨a6,a7,hd⟩:=bind_some hd
   refine AX (RI.one _) 1 m aP Z T61 Z (by decide) f Z Z Z (Ow.src (j:=0) a2 m Z) a7 λa8 a9 w a m ba f=>Aa ?_
   refine a5 a3 [a1,a8] _ _ gr m ?_
   refine A1 λbb w bc m=> ?_
   have ba:=od1 bc ba
   have h3s_0:=rd1 bc h3s_0
   have h3s_2:=RSr.mono trivial _ _ _ _ bc h3s_2
   have o3s_3:=Ow.mono (RSl.mono (RI.mono _)) bc o3s_3
   have ag:=rd1 bc ag
   have ah:=rd1 bc ah
   refine l_o f (Ba (f.e Z)) λa f=>Bh underlying80 Z sizeOf61 f Z λa f=>Ai 5 1 (ds:=[a9]) m sizeOf61 f Z Z (Ow.cells 1 m ba Z) (Ah (Ow.one1 1 m ba Z) An) Z (lb Z) Z λw m=>Aa (Ag (Ae ?_))
   refine AE 4 0 m CI f Z Z Z Z λa f=>l_o f (Ba (f.e Z)) λa f=>Bh underlying80 Z sizeOf61 f Z λa f=>AE 5 1 m CU f Z Z Z Z λa f=>Bw 1 m ba Z underlying61 f Z Z λa f=>Ab f Z λa f=>Aa ?_
   have⟨bd,be,hd⟩:=bind_some hd
   refine AR (λa w=>∃q_245':Unit,bd= .inl q_245'∧∃(bf:GH),GLe bb bf∧Fr a 63 [(0,(.int .u32 x0)),(1,(pb b1)),(3,(pb b3)),(4,(pb b4))]∧Mem W bf w (ib b1 83 [(.int .u32 ac)]::ib b3 78 [(pb b3s)]::ib b4 49 [aa]::ib b2 2 [(iv ad)]::ib b3s 80 [v3s_0,a9,v3s_2,v3s_3]::ib b5 49 [ab]::a8::it3s_3::H)) ?_ ?_
   ·refine Ap ?_
    have m:=m.fr 6
    have m:=m.fr 2
    have m:Mem W bb w (ib b3s 80 [v3s_0,a9,v3s_2,v3s_3]::a8::it3s_3::a1::ib b1 83 [(.int .u32 ac)]::ib b2 2 [(iv ad)]::ib b3 78 [(pb b3s)]::ib b4 49 [aa]::ib b5 49 [ab]::H):=m.fr 6
    have m:=m.fr 5
    have m:=m.fr 8
    have m:Mem W bb w (ib b4 49 [aa]::ib b5 49 [ab]::ib b2 2 [(iv ad)]::ib b3s 80 [v3s_0,a9,v3s_2,v3s_3]::a8::it3s_3::a1::ib b1 83 [(.int .u32 ac)]::ib b3 78 [(pb b3s)]::H):=m.fr 8
    have m:=m.fr 8
    have m:=m.fr 8
    have m:Mem W bb w (ib b1 83 [(.int .u32 ac)]::ib b3 78 [(pb b3s)]::ib b4 49 [aa]::ib b5 49 [ab]::ib b2 2 [(iv ad)]::ib b3s 80 [v3s_0,a9,v3s_2,v3s_3]::a8::it3s_3::H):=m.eraseAt 8
    refine AQ (λbg a w=>∃bh:Int,bh=bg∧∃(bi:GH),GLe bb bi∧Fr a 63 [(0,(.int .u32 x0)),(1,(pb b1)),(3,(pb b3)),(4,(pb b4)),(5,(pb b5)),(36,a9),(37,(iv (a6.length:Int))),(38,(iv bh))]∧Mem W bi w (ib b1 83 [(.int .u32 ac)]::ib b3 78 [(pb b3s)]::ib b4 49 [aa]::ib b5 49 [ab]::ib b2 2 [(iv ad)]::ib b3s 80 [v3s_0,a9,v3s_2,v3s_3]::a8::it3s_3::H)) be ⟨_,Z,_,gr,f.k Z,m⟩ ?_
    clear be f m
    rintro bg bj bk bl a w ⟨bh,rfl,bi,bm,f,m⟩
    have ag:=rd1 bm ag
    have ah:=rd1 bm ah
    have ba:=od1 bm ba
    have o3s_3:=Ow.mono (RSl.mono (RI.mono _)) bm o3s_3
    refine Ae ?_
    refine Ak f Z Z AV λa f=>Aa (Ag ?_)
    rcases Af bk with⟨bn,bk⟩|⟨bn,bk⟩
    ·refine Al f Z bn ?_
     refine Ao ?_
     refine Ag (Ap (Ae ?_))
     refine Ab f Z λa f=> ?_
     have⟨bo,bp,bk⟩:=bind_some bk
     refine BH 6 m ba Z T61 f Z Z Z bp λbq a br f=>BF 6 m ba Z Pl3 f Z Z br bp λbs a bt f=> ?_
     subst bt
     refine Ac f Z λa f=>Ac f Z λa f=>Aa (Ag ?_)
     refine Bc 11 AW (by kernel_rfl) m ?_
     refine Bd 0 11 2 Pl49 Z Z Z f Z λa f=>Ay 1 11 Z f Z λa f=> ?_
     have⟨bu,bv,bk⟩:=bind_some bk
     refine Bs 2 11 T49 ag bv Z f Z Z λbw bx a bz bA f=> ?_
     subst bA
     refine Bq 3 11 Pl83 bz Z f Z λa f=> ?_
     have⟨bB,bC,bk⟩:=bind_some bk
     refine BL (i:=4) 11 Z (by kernel_rfl) Z f Z Z Z call53 (λ_ _ w bD m=>Wk.P m bC) λa f=>Bd 5 11 3 Pl49 Z Z Z f Z λa f=>Ay 6 11 Z f Z λa f=> ?_
     have⟨bE,bF,bk⟩:=bind_some bk
     refine Bs 7 11 T49 ah bF Z f Z Z λbG bH a bI bJ f=> ?_
     subst bJ
     refine Bq 8 11 Pl83 bI Z f Z λa f=> ?_
     have⟨bK,bL,bk⟩:=bind_some bk
     refine BL (i:=9) 11 Z (by kernel_rfl) Z f Z Z Z call53 (λ_ _ w bM m=>Wk.P m bL) λa f=>q_p 10 11 Z f (λ_=>Bi (f.e Z) (f.e Z) AV) λa f=>A1 λbN w bO m=> ?_
     have ba:=od1 bO ba
     have o3s_3:=Ow.mono (RSl.mono (RI.mono _)) bO o3s_3
     refine Aa ?_
     rcases Af bk with⟨bP,bk⟩|⟨bP,bk⟩
     ·refine Al f Z bP ?_
      refine Ae ?_
      refine Ac f Z λa f=>Aa ?_
      refine Am ?_
      have m:Mem W bN w (a8::ib b1 83 [(.int .u32 ac)]::ib b3 78 [(pb b3s)]::ib b4 49 [aa]::ib b5 49 [ab]::ib b2 2 [(iv ad)]::ib b3s 80 [v3s_0,a9,v3s_2,v3s_3]::it3s_3::H):=m.fr 6
      obtain⟨bQ,bR,m,bS⟩:=Ow.stamp (RI.mono _) ba m
      have o3s_3:=Ow.mono (RSl.mono (RI.mono _)) bR o3s_3
      have m:=m.fr 6
      have m:=m.fr 6
      have m:Mem W bQ w (ib b3 78 [(pb b3s)]::ib b3s 80 [v3s_0,a9,v3s_2,v3s_3]::it3s_3::ib b1 83 [(.int .u32 ac)]::ib b4 49 [aa]::ib b5 49 [ab]::ib b2 2 [(iv ad)]::H):=m.fr 3
      have m:=m.fr 6
      have m:Mem W bQ w (ib b1 83 [(.int .u32 ac)]::ib b2 2 [(iv ad)]::ib b3 78 [(pb b3s)]::ib b3s 80 [v3s_0,a9,v3s_2,v3s_3]::it3s_3::ib b4 49 [aa]::ib b5 49 [ab]::H):=m.fr 4
      obtain rfl:=sj bk
      obtain rfl:=bl _ rfl
      obtain rfl:=sj hd
      exact⟨[(.bool false)],f.g Z,f.d,_,[ib b1 83 [(.int .u32 ac)],ib b2 2 [(iv ad)],ib b3 78 [(pb b3s)],ib b3s 80 [v3s_0,a9,v3s_2,v3s_3],it3s_3,ib b4 49 [aa],ib b5 49 [ab]],(gt aB (gt aE (gt aL (gt aR (gt aY (gt a4 (gt bc (gt bm (gt bO bR))))))))),m,_,_,_,Z,Z,bS,o3s_3⟩
     ·refine Aj f Z bP ?_
      refine Ao ?_
      refine Aq ?_
      refine Ak f Z Z AD λa f=>Ab f Z λa f=>Aa ?_
      obtain rfl:=sj bk
      exact⟨_,Z,_,Z,_,(gt bm bO),f.k Z,m⟩
    ·refine Aj f Z bn ?_
     refine AO Z ?_
     have m:=m.fr 5
     have m:=m.fr 5
     have m:Mem W bi w (ib b4 49 [aa]::ib b2 2 [(iv ad)]::ib b3s 80 [v3s_0,a9,v3s_2,v3s_3]::ib b1 83 [(.int .u32 ac)]::ib b3 78 [(pb b3s)]::ib b5 49 [ab]::a8::it3s_3::H):=m.fr 4
     have m:=m.fr 4
     have m:Mem W bi w (ib b1 83 [(.int .u32 ac)]::ib b3 78 [(pb b3s)]::ib b4 49 [aa]::ib b2 2 [(iv ad)]::ib b3s 80 [v3s_0,a9,v3s_2,v3s_3]::ib b5 49 [ab]::a8::it3s_3::H):=m.fr 4
     obtain rfl:=sj bk
     obtain rfl:=bl _ rfl
     exact⟨_,Z,_,bm,f.k Z,m⟩
   ·rintro a w ⟨_,rfl,bf,bT,f,m⟩
    have ag:=rd1 bT ag
    have h3s_0:=rd1 bT h3s_0
    have h3s_2:=RSr.mono trivial _ _ _ _ bT h3s_2
    have ba:=od1 bT ba
    have o3s_3:=Ow.mono (RSl.mono (RI.mono _)) bT o3s_3
    refine Ag ?_
    refine Bc 7 AW (by kernel_rfl) m ?_
    refine Bd 0 7 1 CI Z Z Z f Z λa f=>Bd 1 7 2 Pl49 Z Z Z f Z λa f=> ?_
    have⟨bU,bV,hd⟩:=bind_some hd
    refine BL (i:=2) 7 Z (by kernel_rfl) Z f Z Z Z call55 (λ_ _ w bW m=>Wk.q0 m (rd1 bW ag) bV) λa f=>Bd 3 7 0 Pl83 Z Z Z f Z λa f=>q_p 4 7 Z f (λ_=>Bi (f.e Z) (f.e Z) b_andNot) λa f=>Ay 5 7 Z f Z λa f=>q_p 6 7 Z f (λ_=>Bi (f.e Z) (f.e Z) b_andNot) λa f=>A1 λbX w bY m=> ?_
    have h3s_0:=rd1 bY h3s_0
    have h3s_2:=RSr.mono trivial _ _ _ _ bY h3s_2
    have ba:=od1 bY ba
    have o3s_3:=Ow.mono (RSl.mono (RI.mono _)) bY o3s_3
    have m:Mem W bX w (a8::ib b1 83 [(.int .u32 ac)]::ib b3 78 [(pb b3s)]::ib b4 49 [aa]::ib b2 2 [(iv ad)]::ib b3s 80 [v3s_0,a9,v3s_2,v3s_3]::ib b5 49 [ab]::it3s_3::H):=m.fr 6
    obtain⟨bZ,b0,m,b6⟩:=Ow.stamp (RI.mono _) ba m
    have h3s_0:=rd1 b0 h3s_0
    have h3s_2:=RSr.mono trivial _ _ _ _ b0 h3s_2
    have o3s_3:=Ow.mono (RSl.mono (RI.mono _)) b0 o3s_3
    have m:=m.fr 6
    have m:Mem W bZ w (ib b3s 80 [v3s_0,a9,v3s_2,v3s_3]::it3s_3::ib b1 83 [(.int .u32 ac)]::ib b3 78 [(pb b3s)]::ib b4 49 [aa]::ib b2 2 [(iv ad)]::ib b5 49 [ab]::H):=m.fr 5
    have⟨b7,b8,hd⟩:=bind_some hd
    refine Az f Z call54 (Wk.k hW m h3s_0 b6 h3s_2 o3s_3 b8) λb9 ca cb w cc m cd a f=> ?_
    obtain⟨ce,cf,rfl,rfl,cg⟩:=cd
    have b6:=rd1 cc b6
    refine Ac f Z λa f=>Aa ?_
    refine Am ?_
    have m:=m.fr 3
    have m:=m.fr 5
    have m:Mem W ca w (ib b1 83 [(.int .u32 ac)]::ib b2 2 [(iv ad)]::ib b3 78 [(pb b3s)]::ib b3s 80 [v3s_0,a9,v3s_2,ce]::cf::ib b4 49 [aa]::ib b5 49 [ab]::H):=m.fr 4
    obtain rfl:=sj hd
    exact⟨[(.bool b7.1)],f.g Z,f.d,_,[ib b1 83 [(.int .u32 ac)],ib b2 2 [(iv ad)],ib b3 78 [(pb b3s)],ib b3s 80 [v3s_0,a9,v3s_2,ce],cf,ib b4 49 [aa],ib b5 49 [ab]],(gt aB (gt aE (gt aL (gt aR (gt aY (gt a4 (gt bc (gt bT (gt bY (gt b0 cc)))))))))),m,_,_,_,Z,Z,b6,cg⟩
theorem Wk.X {W:World}(hW:B4 W)(n:Nat):∀{w:World} {G:GH} {H:List Itm} {b4c0 b4c1 b4c2 b4c2s:Nat} {v4c2s_0 v4c2s_1 v4c2s_2 v4c2s_3:Value} {it4c2s_3:Itm} {b4c3:Nat} {aa:Value} {b4c4:Nat} {ab:Value} {x0 x1 x2 x3 ac ad:Int} {x4c2s_0 x4c2s_1:LI} {x4c2s_2:(List (Int×Int))} {x4c2s_3:LL} {ae af:LI} (m:Mem W G w (ib b4c0 83 [(.int .u32 ac)]::ib b4c1 2 [(iv ad)]::ib b4c2 78 [(pb b4c2s)]::ib b4c2s 80 [v4c2s_0,v4c2s_1,v4c2s_2,v4c2s_3]::it4c2s_3::ib b4c3 49 [aa]::ib b4c4 49 [ab]::H)) (h4c2s_0:RSl (RI .u32) G v4c2s_0 x4c2s_0) (h4c2s_1:R1 G v4c2s_1 x4c2s_1) (h4c2s_2:RSr P2 G v4c2s_2 x4c2s_2) (o4c2s_3:Ow R1 61 G it4c2s_3 v4c2s_3 x4c2s_3) (ag:RSl (RI .u32) G aa ae) (ah:RSl (RI .u32) G ab af) {y:Bool×(LI)×(LL)} (hd:D.X n x0 x1 x2 x3 ac ad x4c2s_0 x4c2s_1 x4c2s_2 x4c2s_3 ae af=some y),
  Calls prog 48 #[(iv x0),(iv x1),(iv x2),(.int .u32 x3),(.func (.func 50) #[] #[(pb b4c0),(pb b4c1),(pb b4c2),(pb b4c3),(pb b4c4)])] w (Res W G H (λG' Ho v=>∃r0:Value,∃r1:Value,∃i1:Itm,Ho=[ib b4c0 83 [(.int .u32 ac)],ib b4c1 2 [(iv ad)],ib b4c2 78 [(pb b4c2s)],ib b4c2s 80 [v4c2s_0,r0,v4c2s_2,r1],i1,ib b4c3 49 [aa],ib b4c4 49 [ab]]∧v=(.bool y.1)∧R1 G' r0 y.2.1∧Ow R1 61 G' i1 r1 y.2.2)):=by
 induction n with
 |zero=>intros;rename_i hd;simp[D.X] at hd
 |succ fuel ih=>
  intro w G H b4c0 b4c1 b4c2 b4c2s v4c2s_0 v4c2s_1 v4c2s_2 v4c2s_3 it4c2s_3 b4c3 aa b4c4 ab x0 x1 x2 x3 ac ad x4c2s_0 x4c2s_1 x4c2s_2 x4c2s_3 ae af m h4c2s_0 h4c2s_1 h4c2s_2 o4c2s_3 ag ah y hd
  refine Aw (args:=[(iv x0),(iv x1),(iv x2),(.int .u32 x3),(.func (.func 50) #[] #[(pb b4c0),(pb b4c1),(pb b4c2),(pb b4c3),(pb b4c4)])]) (N:=36) [.tmp 10] func48 Z Z (lb Z) Z λa f=> ?_
  unfold D.X at hd
  refine Ae ?_
  refine Ac f Z λa f=>Aa (Ag (Ae ?_))
  refine Ab f Z λa f=>Ak f Z Z Bj λa f=>Aa ?_
  rcases Af hd with⟨ai,hd⟩|⟨ai,hd⟩
  ·refine Al f Z ai ?_
   refine Ae ?_
   refine Ab f Z λa f=>Ab f Z λa f=> ?_
   have⟨aj,ak,hd⟩:=bind_some hd
   refine l_resv0 f Z Z Z call50 (Wk.Y hW m h4c2s_0 h4c2s_1 h4c2s_2 o4c2s_3 ag ah ak) λal am an w ao m ap a f=> ?_
   obtain⟨aq,ar,au,rfl,rfl,av,aw⟩:=ap
   refine Ac f Z λa f=>Aa ?_
   refine Am ?_
   obtain rfl:=sj hd
   exact⟨[(.bool aj.1)],f.g Z,f.d,_,[ib b4c0 83 [(.int .u32 ac)],ib b4c1 2 [(iv ad)],ib b4c2 78 [(pb b4c2s)],ib b4c2s 80 [v4c2s_0,aq,v4c2s_2,ar],au,ib b4c3 49 [aa],ib b4c4 49 [ab]],ao,m,_,_,_,Z,Z,av,aw⟩
  ·refine Aj f Z ai ?_
   refine Ao ?_
   refine Ag (Ae ?_)
   refine Ab f Z λa f=>Ac f Z λa f=>Aa ?_
   have⟨ax,ay,hd⟩:=bind_some hd
   refine AR (λa w=>∃q_69':LI×LL,ax= .inl q_69'∧∃az:LI,∃aA:LL,(az,aA)=q_69'∧∃(aB:GH) (aC:Value) (aD:Value) (aE:Itm),GLe G aB∧Fr a 36 []∧Mem W aB w (ib b4c0 83 [(.int .u32 ac)]::ib b4c1 2 [(iv ad)]::ib b4c2 78 [(pb b4c2s)]::ib b4c2s 80 [v4c2s_0,aC,v4c2s_2,aD]::ib b4c3 49 [aa]::ib b4c4 49 [ab]::aE::H)∧R1 aB aC az∧Ow R1 61 aB aE aD aA) ?_ ?_
   ·refine Ap ?_
    have m:=m.fr 6
    have m:=m.fr 6
    have m:Mem W G w (ib b4c2 78 [(pb b4c2s)]::ib b4c3 49 [aa]::ib b4c4 49 [ab]::ib b4c0 83 [(.int .u32 ac)]::ib b4c1 2 [(iv ad)]::ib b4c2s 80 [v4c2s_0,v4c2s_1,v4c2s_2,v4c2s_3]::it4c2s_3::H):=m.fr 4
    have m:=m.fr 4
    have m:Mem W G w (ib b4c0 83 [(.int .u32 ac)]::ib b4c1 2 [(iv ad)]::ib b4c2 78 [(pb b4c2s)]::ib b4c3 49 [aa]::ib b4c4 49 [ab]::ib b4c2s 80 [v4c2s_0,v4c2s_1,v4c2s_2,v4c2s_3]::it4c2s_3::H):=m.fr 4
    refine AQ (λaF a w=>∃aG:Int,∃aH:LI,∃aI:LL,(aG,aH,aI)=aF∧∃(aJ:GH) (aK:Value) (aL:Value) (aM:Itm),GLe G aJ∧Fr a 36 [(0,(iv x0)),(2,(iv x2)),(3,(.int .u32 x3)),(4,(.func (.func 50) #[] #[(pb b4c0),(pb b4c1),(pb b4c2),(pb b4c3),(pb b4c4)])),(11,(iv aG))]∧Mem W aJ w (ib b4c0 83 [(.int .u32 ac)]::ib b4c1 2 [(iv ad)]::ib b4c2 78 [(pb b4c2s)]::ib b4c3 49 [aa]::ib b4c4 49 [ab]::ib b4c2s 80 [v4c2s_0,aK,v4c2s_2,aL]::aM::H)∧R1 aJ aK aH∧Ow R1 61 aJ aM aL aI) ay ⟨_,_,_,Z,_,v4c2s_1,v4c2s_3,it4c2s_3,gr,f.k Z,m,h4c2s_1,o4c2s_3⟩ ?_
    clear ay f m
    rintro aF aN aO aP a w ⟨aG,aH,aI,rfl,aJ,aK,aL,aM,aQ,f,m,aR,aS⟩
    have ag:=rd1 aQ ag
    have ah:=rd1 aQ ah
    have h4c2s_0:=rd1 aQ h4c2s_0
    have h4c2s_2:=RSr.mono trivial _ _ _ _ aQ h4c2s_2
    refine Ag (Ae ?_)
    refine Ab f Z λa f=>Ab f Z λa f=>Ak f Z Z AD λa f=>Ab f Z λa f=>Ak f Z Z Ch λa f=>Aa ?_
    rcases Af aO with⟨aT,aO⟩|⟨aT,aO⟩
    ·refine Al f Z aT ?_
     refine Ao ?_
     refine Ag (Ap (Ae ?_))
     refine Ab f Z λa f=>Ab f Z λa f=>Ak f Z Z AD λa f=>Ab f Z λa f=>Ak f Z Z BO λa f=>Ab f Z λa f=>Ab f Z λa f=> ?_
     have⟨aU,aV,aO⟩:=bind_some aO
     refine A4 f Z call62 (Wk.f m aV) λaW w aX m a f=> ?_
     have ag:=rd1 aX ag
     have ah:=rd1 aX ah
     have h4c2s_0:=rd1 aX h4c2s_0
     have aR:=rd1 aX aR
     have h4c2s_2:=RSr.mono trivial _ _ _ _ aX h4c2s_2
     have aS:=Ow.mono (RSl.mono (RI.mono _)) aX aS
     refine Ak f Z Z b_or λa f=>Ab f Z λa f=> ?_
     have m:=m.fr 6
     have m:=m.fr 6
     have m:Mem W aW w (ib b4c2 78 [(pb b4c2s)]::ib b4c2s 80 [v4c2s_0,aK,v4c2s_2,aL]::aM::ib b4c0 83 [(.int .u32 ac)]::ib b4c1 2 [(iv ad)]::ib b4c3 49 [aa]::ib b4c4 49 [ab]::H):=m.fr 4
     have m:=m.fr 4
     have m:Mem W aW w (ib b4c0 83 [(.int .u32 ac)]::ib b4c1 2 [(iv ad)]::ib b4c2 78 [(pb b4c2s)]::ib b4c2s 80 [v4c2s_0,aK,v4c2s_2,aL]::aM::ib b4c3 49 [aa]::ib b4c4 49 [ab]::H):=m.fr 4
     have⟨aY,aZ,aO⟩:=bind_some aO
     refine Az f Z call48 (ih m h4c2s_0 aR h4c2s_2 aS ag ah aZ) λa0 a1 a2 w a3 m a4 a f=> ?_
     obtain⟨a5,a6,a7,rfl,rfl,a8,a9⟩:=a4
     refine Aa ?_
     rcases Af aO with⟨ba,aO⟩|⟨ba,aO⟩
     ·refine Al f Z ba ?_
      refine Ae ?_
      refine Ac f Z λa f=>Aa ?_
      refine Am ?_
      obtain rfl:=sj aO
      obtain rfl:=aP _ rfl
      obtain rfl:=sj hd
      exact⟨[(.bool true)],f.g Z,f.d,_,[ib b4c0 83 [(.int .u32 ac)],ib b4c1 2 [(iv ad)],ib b4c2 78 [(pb b4c2s)],ib b4c2s 80 [v4c2s_0,a5,v4c2s_2,a6],a7,ib b4c3 49 [aa],ib b4c4 49 [ab]],(gt aQ (gt aX a3)),m,_,_,_,Z,Z,a8,a9⟩
     ·refine Aj f Z ba ?_
      refine Ao ?_
      refine Aq ?_
      refine Ab f Z λa f=>Ak f Z Z AD λa f=>Ac f Z λa f=>Aa ?_
      have m:=m.fr 6
      have m:=m.fr 6
      have m:Mem W a1 w (ib b4c2 78 [(pb b4c2s)]::ib b4c3 49 [aa]::ib b4c4 49 [ab]::ib b4c0 83 [(.int .u32 ac)]::ib b4c1 2 [(iv ad)]::ib b4c2s 80 [v4c2s_0,a5,v4c2s_2,a6]::a7::H):=m.fr 4
      have m:=m.fr 4
      have m:Mem W a1 w (ib b4c0 83 [(.int .u32 ac)]::ib b4c1 2 [(iv ad)]::ib b4c2 78 [(pb b4c2s)]::ib b4c3 49 [aa]::ib b4c4 49 [ab]::ib b4c2s 80 [v4c2s_0,a5,v4c2s_2,a6]::a7::H):=m.fr 4
      obtain rfl:=sj aO
      exact⟨_,Z,_,_,_,Z,_,a5,a6,a7,(gt aQ (gt aX a3)),f.k Z,m,a8,a9⟩
    ·refine Aj f Z aT ?_
     refine AO Z ?_
     have m:=m.fr 5
     have m:=m.fr 3
     have m:Mem W aJ w (ib b4c1 2 [(iv ad)]::ib b4c2 78 [(pb b4c2s)]::ib b4c2s 80 [v4c2s_0,aK,v4c2s_2,aL]::ib b4c0 83 [(.int .u32 ac)]::ib b4c3 49 [aa]::ib b4c4 49 [ab]::aM::H):=m.fr 3
     have m:Mem W aJ w (ib b4c0 83 [(.int .u32 ac)]::ib b4c1 2 [(iv ad)]::ib b4c2 78 [(pb b4c2s)]::ib b4c2s 80 [v4c2s_0,aK,v4c2s_2,aL]::ib b4c3 49 [aa]::ib b4c4 49 [ab]::aM::H):=m.fr 3
     obtain rfl:=sj aO
     obtain rfl:=aP _ rfl
     exact⟨_,Z,_,_,Z,_,aK,aL,aM,aQ,f.weak trivial,m,aR,aS⟩
   ·rintro a w ⟨_,rfl,az,aA,rfl,aB,aC,aD,aE,bb,f,m,bc,bd⟩
    refine Ae ?_
    refine Ac f Z λa f=>Aa ?_
    refine Am ?_
    have m:=m.fr 6
    have m:=m.fr 4
    have m:Mem W aB w (ib b4c2 78 [(pb b4c2s)]::ib b4c2s 80 [v4c2s_0,aC,v4c2s_2,aD]::aE::ib b4c0 83 [(.int .u32 ac)]::ib b4c1 2 [(iv ad)]::ib b4c3 49 [aa]::ib b4c4 49 [ab]::H):=m.fr 4
    have m:=m.fr 4
    have m:Mem W aB w (ib b4c0 83 [(.int .u32 ac)]::ib b4c1 2 [(iv ad)]::ib b4c2 78 [(pb b4c2s)]::ib b4c2s 80 [v4c2s_0,aC,v4c2s_2,aD]::aE::ib b4c3 49 [aa]::ib b4c4 49 [ab]::H):=m.fr 4
    obtain rfl:=sj hd
    exact⟨[(.bool false)],f.g Z,f.d,_,[ib b4c0 83 [(.int .u32 ac)],ib b4c1 2 [(iv ad)],ib b4c2 78 [(pb b4c2s)],ib b4c2s 80 [v4c2s_0,aC,v4c2s_2,aD],aE,ib b4c3 49 [aa],ib b4c4 49 [ab]],bb,m,_,_,_,Z,Z,bc,bd⟩
theorem Wk.y {b4c0 b4c1 b4c2 b4c2s:Nat}{v4c2s_0 v4c2s_1 v4c2s_2 v4c2s_3:Value}{it4c2s_3:Itm}{b4c3:Nat}{aa:Value}{b4c4:Nat}{ab:Value}{x0 x1 x2 x3 ac ad:Int}{x4c2s_0 x4c2s_1:LI}{x4c2s_2:(List (Int×Int))}{x4c2s_3:LL}{ae af:LI}(hW:B4 W)(m:Mem W G w (ib b4c0 83 [(.int .u32 ac)]::ib b4c1 2 [(iv ad)]::ib b4c2 78 [(pb b4c2s)]::ib b4c2s 80 [v4c2s_0,v4c2s_1,v4c2s_2,v4c2s_3]::it4c2s_3::ib b4c3 49 [aa]::ib b4c4 49 [ab]::H))(h4c2s_0:RSl (RI .u32) G v4c2s_0 x4c2s_0)(h4c2s_1:R1 G v4c2s_1 x4c2s_1)(h4c2s_2:RSr P2 G v4c2s_2 x4c2s_2)(o4c2s_3:Ow R1 61 G it4c2s_3 v4c2s_3 x4c2s_3)(ag:RSl (RI .u32) G aa ae)(ah:RSl (RI .u32) G ab af){y:Bool×(LI)×(LL)}(hd:D.y x0 x1 x2 x3 ac ad x4c2s_0 x4c2s_1 x4c2s_2 x4c2s_3 ae af=some y):
  Calls prog 48 #[(iv x0),(iv x1),(iv x2),(.int .u32 x3),(.func (.func 50) #[] #[(pb b4c0),(pb b4c1),(pb b4c2),(pb b4c3),(pb b4c4)])] w (Res W G H (λG' Ho v=>∃r0:Value,∃r1:Value,∃i1:Itm,Ho=[ib b4c0 83 [(.int .u32 ac)],ib b4c1 2 [(iv ad)],ib b4c2 78 [(pb b4c2s)],ib b4c2s 80 [v4c2s_0,r0,v4c2s_2,r1],i1,ib b4c3 49 [aa],ib b4c4 49 [ab]]∧v=(.bool y.1)∧R1 G' r0 y.2.1∧Ow R1 61 G' i1 r1 y.2.2)):=by
 exact Wk.X hW BA m h4c2s_0 h4c2s_1 h4c2s_2 o4c2s_3 ag ah hd
theorem Wk.o {b1:Nat}{aa:Value}{b2 b3 b4 b4s:Nat}{v4s_0 v4s_1 v4s_2 v4s_3:Value}{it4s_3:Itm}{b5:Nat}{ab:Value}{x0:Int}{ac:LI}{ad ae:Int}{x4s_0 x4s_1:LI}{x4s_2:(List (Int×Int))}{x4s_3:LL}{af:LI}(hW:B4 W)(m:Mem W G w (ib b1 49 [aa]::ib b2 3 [(iv ad)]::ib b3 2 [(iv ae)]::ib b4 78 [(pb b4s)]::ib b4s 80 [v4s_0,v4s_1,v4s_2,v4s_3]::it4s_3::ib b5 49 [ab]::H))(ag:RSl (RI .u32) G aa ac)(h4s_0:RSl (RI .u32) G v4s_0 x4s_0)(h4s_1:R1 G v4s_1 x4s_1)(h4s_2:RSr P2 G v4s_2 x4s_2)(o4s_3:Ow R1 61 G it4s_3 v4s_3 x4s_3)(ah:RSl (RI .u32) G ab af){y:Bool×(LI)×(LL)}(hd:D.o x0 ac ad ae x4s_0 x4s_1 x4s_2 x4s_3 af=some y):
  Calls prog 49 #[(.int .u32 x0),(pb b1),(pb b2),(pb b3),(pb b4),(pb b5)] w (Res W G H (λG' Ho v=>∃r0:Value,∃r1:Value,∃i1:Itm,Ho=[ib b1 49 [aa],ib b2 3 [(iv ad)],ib b3 2 [(iv ae)],ib b4 78 [(pb b4s)],ib b4s 80 [v4s_0,r0,v4s_2,r1],i1,ib b5 49 [ab]]∧v=(.bool y.1)∧R1 G' r0 y.2.1∧Ow R1 61 G' i1 r1 y.2.2)):=by
 refine Aw (args:=[(.int .u32 x0),(pb b1),(pb b2),(pb b3),(pb b4),(pb b5)]) (N:=13) [.tmp 7] func49 Z Z (lb Z) Z λa f=> ?_
 unfold D.o at hd
 refine Ae ?_
 refine Bf (cs:=[(.int .u32 x0)]) m f Z Z Z λai w a m f=>Ac f Z λa f=>AG ?_
 refine AE 1 0 m Pl49 f Z Z Z Z λa f=>Bb underlying49 f Z Z ag λa f=>AE 2 0 m Pl3 f Z Z Z Z λa f=>DP f Z Z Z λa f=> ?_
 have m:=m.fr 7
 have m:=m.fr 2
 have m:Mem W G w (it4s_3::ib b1 49 [aa]::ib b5 49 [ab]::ib ai 83 [(.int .u32 x0)]::ib b2 3 [(iv ad)]::ib b3 2 [(iv ae)]::ib b4 78 [(pb b4s)]::ib b4s 80 [v4s_0,v4s_1,v4s_2,v4s_3]::H):=m.fr 7
 have m:=m.fr 7
 have m:=m.fr 7
 have m:Mem W G w (ib b3 2 [(iv ae)]::ib b4 78 [(pb b4s)]::ib b4s 80 [v4s_0,v4s_1,v4s_2,v4s_3]::it4s_3::ib b1 49 [aa]::ib b5 49 [ab]::ib ai 83 [(.int .u32 x0)]::ib b2 3 [(iv ad)]::H):=m.fr 7
 have m:Mem W G w (ib ai 83 [(.int .u32 x0)]::ib b3 2 [(iv ae)]::ib b4 78 [(pb b4s)]::ib b4s 80 [v4s_0,v4s_1,v4s_2,v4s_3]::it4s_3::ib b1 49 [aa]::ib b5 49 [ab]::ib b2 3 [(iv ad)]::H):=m.fr 6
 have⟨aj,ak,hd⟩:=bind_some hd
 refine Az f Z call48 (Wk.y hW m h4s_0 h4s_1 h4s_2 o4s_3 ag ah ak) λal am an w ao m ap a f=> ?_
 obtain⟨aq,ar,au,rfl,rfl,av,aw⟩:=ap
 refine Ac f Z λa f=>Aa ?_
 refine Am ?_
 have m:=m.fr 6
 have m:=m.fr 5
 have m:Mem W am w (ib b4s 80 [v4s_0,aq,v4s_2,ar]::au::ib b5 49 [ab]::ib ai 83 [(.int .u32 x0)]::ib b3 2 [(iv ae)]::ib b4 78 [(pb b4s)]::ib b1 49 [aa]::ib b2 3 [(iv ad)]::H):=m.fr 5
 have m:=m.fr 5
 have m:=m.fr 5
 have m:Mem W am w (ib b2 3 [(iv ad)]::ib b3 2 [(iv ae)]::ib b4 78 [(pb b4s)]::ib b4s 80 [v4s_0,aq,v4s_2,ar]::au::ib b5 49 [ab]::ib ai 83 [(.int .u32 x0)]::ib b1 49 [aa]::H):=m.fr 7
 have m:=m.fr 7
 have m:Mem W am w (ib b1 49 [aa]::ib b2 3 [(iv ad)]::ib b3 2 [(iv ae)]::ib b4 78 [(pb b4s)]::ib b4s 80 [v4s_0,aq,v4s_2,ar]::au::ib b5 49 [ab]::H):=m.eraseAt 7
 obtain rfl:=sj hd
 exact⟨[(.bool aj.1)],f.g Z,f.d,_,[ib b1 49 [aa],ib b2 3 [(iv ad)],ib b3 2 [(iv ae)],ib b4 78 [(pb b4s)],ib b4s 80 [v4s_0,aq,v4s_2,ar],au,ib b5 49 [ab]],ao,m,_,_,_,Z,Z,av,aw⟩
theorem Wk.Q {W:World}(hW:B4 W)(n:Nat):∀{w:World} {G:GH} {H:List Itm} {b4c0:Nat} {aa:Value} {b4c1 b4c2 b4c3 b4c3s:Nat} {v4c3s_0 v4c3s_1 v4c3s_2 v4c3s_3:Value} {it4c3s_3:Itm} {b4c4:Nat} {ab:Value} {x0 x1 x2 x3:Int} {ac:LI} {ad ae:Int} {x4c3s_0 x4c3s_1:LI} {x4c3s_2:(List (Int×Int))} {x4c3s_3:LL} {af:LI} (m:Mem W G w (ib b4c0 49 [aa]::ib b4c1 3 [(iv ad)]::ib b4c2 2 [(iv ae)]::ib b4c3 78 [(pb b4c3s)]::ib b4c3s 80 [v4c3s_0,v4c3s_1,v4c3s_2,v4c3s_3]::it4c3s_3::ib b4c4 49 [ab]::H)) (ag:RSl (RI .u32) G aa ac) (h4c3s_0:RSl (RI .u32) G v4c3s_0 x4c3s_0) (h4c3s_1:R1 G v4c3s_1 x4c3s_1) (h4c3s_2:RSr P2 G v4c3s_2 x4c3s_2) (o4c3s_3:Ow R1 61 G it4c3s_3 v4c3s_3 x4c3s_3) (ah:RSl (RI .u32) G ab af) {y:Bool×(LI)×(LL)} (hd:D.Q n x0 x1 x2 x3 ac ad ae x4c3s_0 x4c3s_1 x4c3s_2 x4c3s_3 af=some y),
  Calls prog 48 #[(iv x0),(iv x1),(iv x2),(.int .u32 x3),(.func (.func 49) #[] #[(pb b4c0),(pb b4c1),(pb b4c2),(pb b4c3),(pb b4c4)])] w (Res W G H (λG' Ho v=>∃r0:Value,∃r1:Value,∃i1:Itm,Ho=[ib b4c0 49 [aa],ib b4c1 3 [(iv ad)],ib b4c2 2 [(iv ae)],ib b4c3 78 [(pb b4c3s)],ib b4c3s 80 [v4c3s_0,r0,v4c3s_2,r1],i1,ib b4c4 49 [ab]]∧v=(.bool y.1)∧R1 G' r0 y.2.1∧Ow R1 61 G' i1 r1 y.2.2)):=by
 induction n with
 |zero=>intros;rename_i hd;simp[D.Q] at hd
 |succ fuel ih=>
  intro w G H b4c0 aa b4c1 b4c2 b4c3 b4c3s v4c3s_0 v4c3s_1 v4c3s_2 v4c3s_3 it4c3s_3 b4c4 ab x0 x1 x2 x3 ac ad ae x4c3s_0 x4c3s_1 x4c3s_2 x4c3s_3 af m ag h4c3s_0 h4c3s_1 h4c3s_2 o4c3s_3 ah y hd
  refine Aw (args:=[(iv x0),(iv x1),(iv x2),(.int .u32 x3),(.func (.func 49) #[] #[(pb b4c0),(pb b4c1),(pb b4c2),(pb b4c3),(pb b4c4)])]) (N:=36) [.tmp 10] func48 Z Z (lb Z) Z λa f=> ?_
  unfold D.Q at hd
  refine Ae ?_
  refine Ac f Z λa f=>Aa (Ag (Ae ?_))
  refine Ab f Z λa f=>Ak f Z Z Bj λa f=>Aa ?_
  rcases Af hd with⟨ai,hd⟩|⟨ai,hd⟩
  ·refine Al f Z ai ?_
   refine Ae ?_
   refine Ab f Z λa f=>Ab f Z λa f=> ?_
   have⟨aj,ak,hd⟩:=bind_some hd
   refine l_resv0 f Z Z Z call49 (Wk.o hW m ag h4c3s_0 h4c3s_1 h4c3s_2 o4c3s_3 ah ak) λal am an w ao m ap a f=> ?_
   obtain⟨aq,ar,au,rfl,rfl,av,aw⟩:=ap
   refine Ac f Z λa f=>Aa ?_
   refine Am ?_
   obtain rfl:=sj hd
   exact⟨[(.bool aj.1)],f.g Z,f.d,_,[ib b4c0 49 [aa],ib b4c1 3 [(iv ad)],ib b4c2 2 [(iv ae)],ib b4c3 78 [(pb b4c3s)],ib b4c3s 80 [v4c3s_0,aq,v4c3s_2,ar],au,ib b4c4 49 [ab]],ao,m,_,_,_,Z,Z,av,aw⟩
  ·refine Aj f Z ai ?_
   refine Ao ?_
   refine Ag (Ae ?_)
   refine Ab f Z λa f=>Ac f Z λa f=>Aa ?_
   have⟨ax,ay,hd⟩:=bind_some hd
   refine AR (λa w=>∃q_69':LI×LL,ax= .inl q_69'∧∃az:LI,∃aA:LL,(az,aA)=q_69'∧∃(aB:GH) (aC:Value) (aD:Value) (aE:Itm),GLe G aB∧Fr a 36 []∧Mem W aB w (ib b4c0 49 [aa]::ib b4c1 3 [(iv ad)]::ib b4c2 2 [(iv ae)]::ib b4c3 78 [(pb b4c3s)]::ib b4c3s 80 [v4c3s_0,aC,v4c3s_2,aD]::ib b4c4 49 [ab]::aE::H)∧R1 aB aC az∧Ow R1 61 aB aE aD aA) ?_ ?_
   ·refine Ap ?_
    have m:=m.fr 6
    have m:=m.fr 4
    have m:Mem W G w (ib b4c2 2 [(iv ae)]::ib b4c3 78 [(pb b4c3s)]::ib b4c4 49 [ab]::ib b4c0 49 [aa]::ib b4c1 3 [(iv ad)]::ib b4c3s 80 [v4c3s_0,v4c3s_1,v4c3s_2,v4c3s_3]::it4c3s_3::H):=m.fr 4
    have m:=m.fr 4
    have m:Mem W G w (ib b4c0 49 [aa]::ib b4c1 3 [(iv ad)]::ib b4c2 2 [(iv ae)]::ib b4c3 78 [(pb b4c3s)]::ib b4c4 49 [ab]::ib b4c3s 80 [v4c3s_0,v4c3s_1,v4c3s_2,v4c3s_3]::it4c3s_3::H):=m.fr 4
    refine AQ (λaF a w=>∃aG:Int,∃aH:LI,∃aI:LL,(aG,aH,aI)=aF∧∃(aJ:GH) (aK:Value) (aL:Value) (aM:Itm),GLe G aJ∧Fr a 36 [(0,(iv x0)),(2,(iv x2)),(3,(.int .u32 x3)),(4,(.func (.func 49) #[] #[(pb b4c0),(pb b4c1),(pb b4c2),(pb b4c3),(pb b4c4)])),(11,(iv aG))]∧Mem W aJ w (ib b4c0 49 [aa]::ib b4c1 3 [(iv ad)]::ib b4c2 2 [(iv ae)]::ib b4c3 78 [(pb b4c3s)]::ib b4c4 49 [ab]::ib b4c3s 80 [v4c3s_0,aK,v4c3s_2,aL]::aM::H)∧R1 aJ aK aH∧Ow R1 61 aJ aM aL aI) ay ⟨_,_,_,Z,_,v4c3s_1,v4c3s_3,it4c3s_3,gr,f.k Z,m,h4c3s_1,o4c3s_3⟩ ?_
    clear ay f m
    rintro aF aN aO aP a w ⟨aG,aH,aI,rfl,aJ,aK,aL,aM,aQ,f,m,aR,aS⟩
    have ag:=rd1 aQ ag
    have ah:=rd1 aQ ah
    have h4c3s_0:=rd1 aQ h4c3s_0
    have h4c3s_2:=RSr.mono trivial _ _ _ _ aQ h4c3s_2
    refine Ag (Ae ?_)
    refine Ab f Z λa f=>Ab f Z λa f=>Ak f Z Z AD λa f=>Ab f Z λa f=>Ak f Z Z Ch λa f=>Aa ?_
    rcases Af aO with⟨aT,aO⟩|⟨aT,aO⟩
    ·refine Al f Z aT ?_
     refine Ao ?_
     refine Ag (Ap (Ae ?_))
     refine Ab f Z λa f=>Ab f Z λa f=>Ak f Z Z AD λa f=>Ab f Z λa f=>Ak f Z Z BO λa f=>Ab f Z λa f=>Ab f Z λa f=> ?_
     have⟨aU,aV,aO⟩:=bind_some aO
     refine A4 f Z call62 (Wk.f m aV) λaW w aX m a f=> ?_
     have ag:=rd1 aX ag
     have ah:=rd1 aX ah
     have h4c3s_0:=rd1 aX h4c3s_0
     have aR:=rd1 aX aR
     have h4c3s_2:=RSr.mono trivial _ _ _ _ aX h4c3s_2
     have aS:=Ow.mono (RSl.mono (RI.mono _)) aX aS
     refine Ak f Z Z b_or λa f=>Ab f Z λa f=> ?_
     have m:=m.fr 6
     have m:=m.fr 6
     have m:Mem W aW w (ib b4c3 78 [(pb b4c3s)]::ib b4c3s 80 [v4c3s_0,aK,v4c3s_2,aL]::aM::ib b4c0 49 [aa]::ib b4c1 3 [(iv ad)]::ib b4c2 2 [(iv ae)]::ib b4c4 49 [ab]::H):=m.fr 5
     have m:=m.fr 5
     have m:=m.fr 5
     have m:Mem W aW w (ib b4c0 49 [aa]::ib b4c1 3 [(iv ad)]::ib b4c2 2 [(iv ae)]::ib b4c3 78 [(pb b4c3s)]::ib b4c3s 80 [v4c3s_0,aK,v4c3s_2,aL]::aM::ib b4c4 49 [ab]::H):=m.fr 5
     have⟨aY,aZ,aO⟩:=bind_some aO
     refine Az f Z call48 (ih m ag h4c3s_0 aR h4c3s_2 aS ah aZ) λa0 a1 a2 w a3 m a4 a f=> ?_
     obtain⟨a5,a6,a7,rfl,rfl,a8,a9⟩:=a4
     refine Aa ?_
     rcases Af aO with⟨ba,aO⟩|⟨ba,aO⟩
     ·refine Al f Z ba ?_
      refine Ae ?_
      refine Ac f Z λa f=>Aa ?_
      refine Am ?_
      obtain rfl:=sj aO
      obtain rfl:=aP _ rfl
      obtain rfl:=sj hd
      exact⟨[(.bool true)],f.g Z,f.d,_,[ib b4c0 49 [aa],ib b4c1 3 [(iv ad)],ib b4c2 2 [(iv ae)],ib b4c3 78 [(pb b4c3s)],ib b4c3s 80 [v4c3s_0,a5,v4c3s_2,a6],a7,ib b4c4 49 [ab]],(gt aQ (gt aX a3)),m,_,_,_,Z,Z,a8,a9⟩
     ·refine Aj f Z ba ?_
      refine Ao ?_
      refine Aq ?_
      refine Ab f Z λa f=>Ak f Z Z AD λa f=>Ac f Z λa f=>Aa ?_
      have m:=m.fr 6
      have m:=m.fr 4
      have m:Mem W a1 w (ib b4c2 2 [(iv ae)]::ib b4c3 78 [(pb b4c3s)]::ib b4c4 49 [ab]::ib b4c0 49 [aa]::ib b4c1 3 [(iv ad)]::ib b4c3s 80 [v4c3s_0,a5,v4c3s_2,a6]::a7::H):=m.fr 4
      have m:=m.fr 4
      have m:Mem W a1 w (ib b4c0 49 [aa]::ib b4c1 3 [(iv ad)]::ib b4c2 2 [(iv ae)]::ib b4c3 78 [(pb b4c3s)]::ib b4c4 49 [ab]::ib b4c3s 80 [v4c3s_0,a5,v4c3s_2,a6]::a7::H):=m.fr 4
      obtain rfl:=sj aO
      exact⟨_,Z,_,_,_,Z,_,a5,a6,a7,(gt aQ (gt aX a3)),f.k Z,m,a8,a9⟩
    ·refine Aj f Z aT ?_
     refine AO Z ?_
     have m:=m.fr 5
     have m:=m.fr 4
     have m:Mem W aJ w (ib b4c2 2 [(iv ae)]::ib b4c3 78 [(pb b4c3s)]::ib b4c3s 80 [v4c3s_0,aK,v4c3s_2,aL]::ib b4c0 49 [aa]::ib b4c1 3 [(iv ad)]::ib b4c4 49 [ab]::aM::H):=m.fr 4
     have m:=m.fr 4
     have m:Mem W aJ w (ib b4c0 49 [aa]::ib b4c1 3 [(iv ad)]::ib b4c2 2 [(iv ae)]::ib b4c3 78 [(pb b4c3s)]::ib b4c3s 80 [v4c3s_0,aK,v4c3s_2,aL]::ib b4c4 49 [ab]::aM::H):=m.fr 4
     obtain rfl:=sj aO
     obtain rfl:=aP _ rfl
     exact⟨_,Z,_,_,Z,_,aK,aL,aM,aQ,f.weak trivial,m,aR,aS⟩
   ·rintro a w ⟨_,rfl,az,aA,rfl,aB,aC,aD,aE,bb,f,m,bc,bd⟩
    refine Ae ?_
    refine Ac f Z λa f=>Aa ?_
    refine Am ?_
    have m:=m.fr 6
    have m:=m.fr 5
    have m:Mem W aB w (ib b4c3 78 [(pb b4c3s)]::ib b4c3s 80 [v4c3s_0,aC,v4c3s_2,aD]::aE::ib b4c0 49 [aa]::ib b4c1 3 [(iv ad)]::ib b4c2 2 [(iv ae)]::ib b4c4 49 [ab]::H):=m.fr 5
    have m:=m.fr 5
    have m:=m.fr 5
    have m:Mem W aB w (ib b4c0 49 [aa]::ib b4c1 3 [(iv ad)]::ib b4c2 2 [(iv ae)]::ib b4c3 78 [(pb b4c3s)]::ib b4c3s 80 [v4c3s_0,aC,v4c3s_2,aD]::aE::ib b4c4 49 [ab]::H):=m.fr 5
    obtain rfl:=sj hd
    exact⟨[(.bool false)],f.g Z,f.d,_,[ib b4c0 49 [aa],ib b4c1 3 [(iv ad)],ib b4c2 2 [(iv ae)],ib b4c3 78 [(pb b4c3s)],ib b4c3s 80 [v4c3s_0,aC,v4c3s_2,aD],aE,ib b4c4 49 [ab]],bb,m,_,_,_,Z,Z,bc,bd⟩
theorem Wk.d {b4c0:Nat}{aa:Value}{b4c1 b4c2 b4c3 b4c3s:Nat}{v4c3s_0 v4c3s_1 v4c3s_2 v4c3s_3:Value}{it4c3s_3:Itm}{b4c4:Nat}{ab:Value}{x0 x1 x2 x3:Int}{ac:LI}{ad ae:Int}{x4c3s_0 x4c3s_1:LI}{x4c3s_2:(List (Int×Int))}{x4c3s_3:LL}{af:LI}(hW:B4 W)(m:Mem W G w (ib b4c0 49 [aa]::ib b4c1 3 [(iv ad)]::ib b4c2 2 [(iv ae)]::ib b4c3 78 [(pb b4c3s)]::ib b4c3s 80 [v4c3s_0,v4c3s_1,v4c3s_2,v4c3s_3]::it4c3s_3::ib b4c4 49 [ab]::H))(ag:RSl (RI .u32) G aa ac)(h4c3s_0:RSl (RI .u32) G v4c3s_0 x4c3s_0)(h4c3s_1:R1 G v4c3s_1 x4c3s_1)(h4c3s_2:RSr P2 G v4c3s_2 x4c3s_2)(o4c3s_3:Ow R1 61 G it4c3s_3 v4c3s_3 x4c3s_3)(ah:RSl (RI .u32) G ab af){y:Bool×(LI)×(LL)}(hd:D.d x0 x1 x2 x3 ac ad ae x4c3s_0 x4c3s_1 x4c3s_2 x4c3s_3 af=some y):
  Calls prog 48 #[(iv x0),(iv x1),(iv x2),(.int .u32 x3),(.func (.func 49) #[] #[(pb b4c0),(pb b4c1),(pb b4c2),(pb b4c3),(pb b4c4)])] w (Res W G H (λG' Ho v=>∃r0:Value,∃r1:Value,∃i1:Itm,Ho=[ib b4c0 49 [aa],ib b4c1 3 [(iv ad)],ib b4c2 2 [(iv ae)],ib b4c3 78 [(pb b4c3s)],ib b4c3s 80 [v4c3s_0,r0,v4c3s_2,r1],i1,ib b4c4 49 [ab]]∧v=(.bool y.1)∧R1 G' r0 y.2.1∧Ow R1 61 G' i1 r1 y.2.2)):=by
 exact Wk.Q hW BA m ag h4c3s_0 h4c3s_1 h4c3s_2 o4c3s_3 ah hd
theorem Wk.h {v0:Value}{x0:LI}{x1:Int}(hW:B4 W)(m:Mem W G w (H))(h0:RSl (RI .u32) G v0 x0){y:Int×(LI)×(LL)×Bool}(hd:D.h x0 x1=some y):
  Calls prog 20 #[v0,(iv x1)] w (Res W G H (λG' Ho v=>∃r0:Value,∃i0:Itm,∃r2:Value,∃i2:Itm,Ho=[i0,i2]∧v= .tuple #[(.agg #[(iv y.1),r0,r2]),(.bool y.2.2.2)]∧Ow R0 2 G' i0 r0 y.2.1∧Ow R1 29 G' i2 r2 y.2.2.1)):=by
 refine Aw (args:=[v0,(iv x1)]) (N:=69) [.cell 4 31,.tmp 5] func20 Z Z (lb Z) Z λa f=> ?_
 unfold D.h at hd
 refine Ae ?_
 refine Bf (cs:=[v0]) m f Z Z h0.cells λaa w a m f=>Bf (cs:=[(iv x1)]) m f Z Z Z λab w a m f=>AH (cs:=[(iv 0),sn,sn]) zeroValue31 m f Z Z λac w a m f=>Ac f Z λa f=>AG ?_
 refine AE 1 0 m Pl2 f Z Z Z Z λa f=> ?_
 have⟨ad,ae,hd⟩:=bind_some hd
 refine A4 f Z call18 (Wk.v m ae) λaf w ag m a f=> ?_
 have h0:=rd1 ag h0
 refine Ab f Z λa f=>l_o f (AB (f.e Z) Z) λa f=>l_o f (AB (f.e Z) Z) λa f=>AH (cs:=[(iv 0)]) zeroValue3 m f Z Z λah w a m f=>Ac f Z λa f=>Ai 0 0 (ds:=[(iv ad.2)]) m sizeOf3 f Z Z Z (Ah Z An) Z (lb Z) Z λw m=>AG ?_
 refine AE 2 0 m Pl2 f Z Z Z Z λa f=> ?_
 have⟨ai,aj,hd⟩:=bind_some hd
 refine Az f Z call9 (Wk.i0 hW m aj) λak al am w an m ao a f=> ?_
 obtain⟨ap,aq,rfl,rfl,ar⟩:=ao
 have h0:=rd1 an h0
 have⟨au,av,hd⟩:=bind_some hd
 refine Az f Z call21 (Ow.lendCall (RSl.mono (RI.mono _)) 0 ar m Z (λaw ax m ay=>Wk.e0 m ay av) (λ_ G' _ _ ⟨a0,a1,e1,e2,o0⟩=>⟨a0,a1,e1,e2,Ow.free (RI.free _) G' o0⟩)) λaz aA aB w aC m aD a f=> ?_
 obtain⟨aE,aF,rfl,rfl,aG⟩:=aD
 have h0:=rd1 aC h0
 refine AH (cs:=[sn]) zeroValue49 m f Z Z λaH w a m f=>Ai 0 0 (ds:=[aE]) m sizeOf49 f Z Z (Ow.cells 1 m aG Z) (Ah (Ow.one1 1 m aG Z) An) Z (lb Z) Z λw m=>Aa (Ag ?_)
 have⟨aI,aJ,hd⟩:=bind_some hd
 refine AR (λa w=>∃aK:List (Int×Int),aK=aI∧∃(aL:GH) (aM:Nat) (aN:Nat) (aO:Value) (aP:Itm),GLe aA aL∧Fr a 69 [(2,(pb aa)),(3,(pb ab)),(4,(pb ac)),(6,(iv ad.1)),(7,(pb ah)),(8,(pb aH)),(9,(pb aM))]∧Mem W aL w (ib aa 49 [v0]::ib ab 2 [(iv x1)]::ib ac 31 [(iv 0),sn,sn]::ib ah 3 [(iv ad.2)]::ib aH 49 [aE]::ib aM 78 [(pb aN)]::ib aN 80 [v0,sn,aO,sn]::aP::aF::H)∧OwR P2 66 aL aP aO aK) ?_ ?_
 ·refine Bc 6 AW (by kernel_rfl) m ?_
  refine Bd 0 6 6 Pl49 Z Z Z f Z λa f=>Bd 1 6 5 Pl2 Z Z Z f Z λa f=>Cf (i:=2) (j:=5) (l1:= #[true,true,true,false,false,false,false]) (l2:= #[true,true,false,false,false,true,false]) Z Z (by kernel_rfl) Z Z ?_ ?_
  ·intro aQ w aR m aS aS
   have h0:=rd1 aR h0
   have⟨aT,aU,aJ⟩:=bind_some aJ
   refine Az f Z call33 (Wk.F m aU) λaV aW aX w aY m aZ a f=> ?_
   obtain⟨a2,a3,rfl,rfl,a4⟩:=aZ
   have h0:=rd1 aY h0
   refine Aa ?_
   refine aS aW [a3] _ _ aY m ?_
   refine Cf (i:=3) (j:=5) (l1:= #[true,true,true,true,false,false,false]) (l2:= #[true,true,true,false,false,true,false]) Z Z (by kernel_rfl) Z Z ?_ ?_
   ·intro a5 w a6 m a7 a7
    have h0:=rd1 a6 h0
    have a4:=OwR.mono trivial a6 a4
    have a8:∀w,(Instr.build 80 #[(0,v0),(2,a2)]).run prog w= .ok (.agg #[v0,sn,a2,sn]) w:=by intro w;simp[Instr.build,Instr.fill,h0.cells,(OwR.cells 0 m a4 rfl),A8,A6,AT,AZ,AP,A9]
    refine Bl f Z Z a8 λa f=>Aa ?_
    refine a7 a5 [a3] _ _ gr m ?_
    refine Cf (i:=4) (j:=5) (l1:= #[true,true,true,true,true,false,false]) (l2:= #[true,true,true,true,false,true,false]) Z Z (by kernel_rfl) Z Z ?_ ?_
    ·intro a9 w ba m bb bb
     have a4:=OwR.mono trivial ba a4
     refine Bf (cs:=[v0,sn,a2,sn]) m f Z Z Z λbc w a m f=>Aa ?_
     refine bb a9 [ib bc 80 [v0,sn,a2,sn],a3] _ _ gr m ?_
     refine A3 5 Z λbd w be m bf bf=> ?_
     have a4:=OwR.mono trivial be a4
     refine AH (cs:=[(.pointer none)]) zeroValue78 m f Z Z λbg w a m f=>Aa ?_
     refine bf bd [ib bg 78 [(.pointer none)],ib bc 80 [v0,sn,a2,sn],a3] _ _ gr m ?_
     refine A1 λbh w bi m=> ?_
     have a4:=OwR.mono trivial bi a4
     refine Ai 0 0 (ds:=[(pb bc)]) m sizeOf78 f Z Z Z (Ah Z An) Z (lb Z) Z λw m=>Aa ?_
     have m:=m.fr 3
     have m:=m.fr 6
     have m:Mem W bh w (ib ac 31 [(iv 0),sn,sn]::ib ah 3 [(iv ad.2)]::ib aH 49 [aE]::ib bg 78 [(pb bc)]::ib bc 80 [v0,sn,a2,sn]::a3::aF::aq::ib ab 2 [(iv x1)]::ib aa 49 [v0]::H):=m.fr 7
     have m:=m.fr 8
     have m:=m.fr 9
     have m:Mem W bh w (ib aa 49 [v0]::ib ab 2 [(iv x1)]::ib ac 31 [(iv 0),sn,sn]::ib ah 3 [(iv ad.2)]::ib aH 49 [aE]::ib bg 78 [(pb bc)]::ib bc 80 [v0,sn,a2,sn]::a3::aF::H):=m.eraseAt 9
     obtain rfl:=sj aJ
     exact⟨_,Z,_,bg,bc,a2,a3,(gt aR (gt aY (gt a6 (gt ba (gt be bi))))),f.k Z,m,a4⟩
    ·intro bd w be m bf bf
     have a4:=OwR.mono trivial be a4
     refine AH (cs:=[(.pointer none)]) zeroValue78 m f Z Z λbg w a m f=>Aa ?_
     refine bf bd [ib bg 78 [(.pointer none)],a3] _ _ gr m ?_
     refine A3 4 Z λa9 w ba m bb bb=> ?_
     have a4:=OwR.mono trivial ba a4
     refine Bf (cs:=[v0,sn,a2,sn]) m f Z Z Z λbc w a m f=>Aa ?_
     refine bb a9 [ib bc 80 [v0,sn,a2,sn],ib bg 78 [(.pointer none)],a3] _ _ gr m ?_
     refine A1 λbh w bi m=> ?_
     have a4:=OwR.mono trivial bi a4
     refine Ai 1 0 (ds:=[(pb bc)]) m sizeOf78 f Z Z Z (Ah Z An) Z (lb Z) Z λw m=>Aa ?_
     have m:=m.fr 1
     have m:=m.fr 3
     have m:Mem W bh w (ib ah 3 [(iv ad.2)]::ib aH 49 [aE]::ib bg 78 [(pb bc)]::ib bc 80 [v0,sn,a2,sn]::a3::aF::aq::ib ac 31 [(iv 0),sn,sn]::ib ab 2 [(iv x1)]::ib aa 49 [v0]::H):=m.fr 6
     have m:=m.fr 7
     have m:=m.fr 8
     have m:Mem W bh w (ib aa 49 [v0]::ib ab 2 [(iv x1)]::ib ac 31 [(iv 0),sn,sn]::ib ah 3 [(iv ad.2)]::ib aH 49 [aE]::ib bg 78 [(pb bc)]::ib bc 80 [v0,sn,a2,sn]::a3::aF::aq::H):=m.fr 9
     have m:Mem W bh w (ib aa 49 [v0]::ib ab 2 [(iv x1)]::ib ac 31 [(iv 0),sn,sn]::ib ah 3 [(iv ad.2)]::ib aH 49 [aE]::ib bg 78 [(pb bc)]::ib bc 80 [v0,sn,a2,sn]::a3::aF::H):=m.eraseAt 9
     obtain rfl:=sj aJ
     exact⟨_,Z,_,bg,bc,a2,a3,(gt aR (gt aY (gt a6 (gt be (gt ba bi))))),f.k Z,m,a4⟩
   ·intro bd w be m bf bf
    have h0:=rd1 be h0
    have a4:=OwR.mono trivial be a4
    refine AH (cs:=[(.pointer none)]) zeroValue78 m f Z Z λbg w a m f=>Aa ?_
    refine bf bd [ib bg 78 [(.pointer none)],a3] _ _ gr m ?_
    refine A3 3 Z λa5 w a6 m a7 a7=> ?_
    have h0:=rd1 a6 h0
    have a4:=OwR.mono trivial a6 a4
    have a8:∀w,(Instr.build 80 #[(0,v0),(2,a2)]).run prog w= .ok (.agg #[v0,sn,a2,sn]) w:=by intro w;simp[Instr.build,Instr.fill,h0.cells,(OwR.cells 1 m a4 rfl),A8,A6,AT,AZ,AP,A9]
    refine Bl f Z Z a8 λa f=>Aa ?_
    refine a7 a5 [ib bg 78 [(.pointer none)],a3] _ _ gr m ?_
    refine A3 4 Z λa9 w ba m bb bb=> ?_
    have a4:=OwR.mono trivial ba a4
    refine Bf (cs:=[v0,sn,a2,sn]) m f Z Z Z λbc w a m f=>Aa ?_
    refine bb a9 [ib bc 80 [v0,sn,a2,sn],ib bg 78 [(.pointer none)],a3] _ _ gr m ?_
    refine A1 λbh w bi m=> ?_
    have a4:=OwR.mono trivial bi a4
    refine Ai 1 0 (ds:=[(pb bc)]) m sizeOf78 f Z Z Z (Ah Z An) Z (lb Z) Z λw m=>Aa ?_
    have m:=m.fr 1
    have m:=m.fr 3
    have m:Mem W bh w (ib ah 3 [(iv ad.2)]::ib aH 49 [aE]::ib bg 78 [(pb bc)]::ib bc 80 [v0,sn,a2,sn]::a3::aF::aq::ib ac 31 [(iv 0),sn,sn]::ib ab 2 [(iv x1)]::ib aa 49 [v0]::H):=m.fr 6
    have m:=m.fr 7
    have m:=m.fr 8
    have m:Mem W bh w (ib aa 49 [v0]::ib ab 2 [(iv x1)]::ib ac 31 [(iv 0),sn,sn]::ib ah 3 [(iv ad.2)]::ib aH 49 [aE]::ib bg 78 [(pb bc)]::ib bc 80 [v0,sn,a2,sn]::a3::aF::aq::H):=m.fr 9
    have m:Mem W bh w (ib aa 49 [v0]::ib ab 2 [(iv x1)]::ib ac 31 [(iv 0),sn,sn]::ib ah 3 [(iv ad.2)]::ib aH 49 [aE]::ib bg 78 [(pb bc)]::ib bc 80 [v0,sn,a2,sn]::a3::aF::H):=m.eraseAt 9
    obtain rfl:=sj aJ
    exact⟨_,Z,_,bg,bc,a2,a3,(gt aR (gt aY (gt be (gt a6 (gt ba bi))))),f.k Z,m,a4⟩
  ·intro bd w be m bf bf
   have⟨aT,aU,aJ⟩:=bind_some aJ
   have h0:=rd1 be h0
   refine AH (cs:=[(.pointer none)]) zeroValue78 m f Z Z λbg w a m f=>Aa ?_
   refine bf bd [ib bg 78 [(.pointer none)]] _ _ gr m ?_
   refine A3 2 Z λaQ w aR m aS aS=> ?_
   have h0:=rd1 aR h0
   refine Az f Z call33 (Wk.F m aU) λaV aW aX w aY m aZ a f=> ?_
   obtain⟨a2,a3,rfl,rfl,a4⟩:=aZ
   have h0:=rd1 aY h0
   refine Aa ?_
   refine aS aW [a3,ib bg 78 [(.pointer none)]] _ _ aY m ?_
   refine A3 3 Z λa5 w a6 m a7 a7=> ?_
   have h0:=rd1 a6 h0
   have a4:=OwR.mono trivial a6 a4
   have a8:∀w,(Instr.build 80 #[(0,v0),(2,a2)]).run prog w= .ok (.agg #[v0,sn,a2,sn]) w:=by intro w;simp[Instr.build,Instr.fill,h0.cells,(OwR.cells 0 m a4 rfl),A8,A6,AT,AZ,AP,A9]
   refine Bl f Z Z a8 λa f=>Aa ?_
   refine a7 a5 [a3,ib bg 78 [(.pointer none)]] _ _ gr m ?_
   refine A3 4 Z λa9 w ba m bb bb=> ?_
   have a4:=OwR.mono trivial ba a4
   refine Bf (cs:=[v0,sn,a2,sn]) m f Z Z Z λbc w a m f=>Aa ?_
   refine bb a9 [ib bc 80 [v0,sn,a2,sn],a3,ib bg 78 [(.pointer none)]] _ _ gr m ?_
   refine A1 λbh w bi m=> ?_
   have a4:=OwR.mono trivial bi a4
   refine Ai 2 0 (ds:=[(pb bc)]) m sizeOf78 f Z Z Z (Ah Z An) Z (lb Z) Z λw m=>Aa ?_
   have m:=m.fr 2
   have m:=m.fr 3
   have m:Mem W bh w (ib ah 3 [(iv ad.2)]::ib aH 49 [aE]::ib bg 78 [(pb bc)]::ib bc 80 [v0,sn,a2,sn]::a3::aF::aq::ib ac 31 [(iv 0),sn,sn]::ib ab 2 [(iv x1)]::ib aa 49 [v0]::H):=m.fr 6
   have m:=m.fr 7
   have m:=m.fr 8
   have m:Mem W bh w (ib aa 49 [v0]::ib ab 2 [(iv x1)]::ib ac 31 [(iv 0),sn,sn]::ib ah 3 [(iv ad.2)]::ib aH 49 [aE]::ib bg 78 [(pb bc)]::ib bc 80 [v0,sn,a2,sn]::a3::aF::aq::H):=m.fr 9
   have m:Mem W bh w (ib aa 49 [v0]::ib ab 2 [(iv x1)]::ib ac 31 [(iv 0),sn,sn]::ib ah 3 [(iv ad.2)]::ib aH 49 [aE]::ib bg 78 [(pb bc)]::ib bc 80 [v0,sn,a2,sn]::a3::aF::H):=m.eraseAt 9
   obtain rfl:=sj aJ
   exact⟨_,Z,_,bg,bc,a2,a3,(gt be (gt aR (gt aY (gt a6 (gt ba bi))))),f.k Z,m,a4⟩
 ·rintro a w ⟨aK,rfl,aL,aM,aN,aO,aP,bj,f,m,bk⟩
  have h0:=rd1 bj h0
  have aG:=od1 bj aG
  refine Ag ?_
  refine Bc 7 AW (by kernel_rfl) m ?_
  refine Bd 0 7 5 CI Z Z Z f Z λa f=>Bd 1 7 5 CI Z Z Z f Z λa f=>q_p 2 7 Z f (λ_=>Ba (f.e Z)) λa f=>BB 3 7 underlying80 Z sizeOf63 Z f Z λa f=>Bd 4 7 6 Pl63 Z Z Z f Z λa f=>q_ownR_len (i:=5) (listed':= #[true,true,true,true,true,true,false,false,false,false]) 7 7 m bk Z underlying63 Z (by kernel_rfl) Z f Z Z Z λa f=>A3 6 Z λbl w bm m bn bn=> ?_
  have h0:=rd1 bm h0
  have bk:=OwR.mono trivial bm bk
  have aG:=od1 bm aG
  have⟨bo,bp,hd⟩:=bind_some hd
  refine l_make (R:=R1) m T51 Z (by decide) (RSl.nil R0 bl) f Z Z Z bp λbq br w a m bs f=>Aa ?_
  refine bn bl [bq] _ _ gr m ?_
  refine A1 λbt w bu m=> ?_
  have bs:=Ow.mono (RSl.mono (RI.mono _)) bu bs
  have h0:=rd1 bu h0
  have bk:=OwR.mono trivial bu bk
  have aG:=od1 bu aG
  refine l_o f (Ba (f.e Z)) λa f=>Bh underlying80 Z sizeOf51 f Z λa f=>Ai 7 3 (ds:=[br]) m sizeOf51 f Z Z (Ow.cells 0 m bs Z) (Ah (Ow.one1 0 m bs Z) An) Z (lb Z) Z λw m=>AG ?_
  refine AE 1 0 m Pl49 f Z Z Z Z λa f=>Bb underlying49 f Z Z h0 λa f=>Ab f Z λa f=>DP f Z Z Z λa f=> ?_
  have bv:=RSl.nil R0 bt
  have m:Mem W bt w (aP::bq::ib aa 49 [v0]::ib ab 2 [(iv x1)]::ib ac 31 [(iv 0),sn,sn]::ib ah 3 [(iv ad.2)]::ib aH 49 [aE]::ib aM 78 [(pb aN)]::ib aN 80 [v0,sn,aO,br]::aF::H):=m.fr 8
  obtain⟨bw,bx,m,bz⟩:=OwR.stamp trivial bk m
  have h0:=rd1 bx h0
  have bs:=Ow.mono (RSl.mono (RI.mono _)) bx bs
  have bv:=rd1 bx bv
  have aG:=od1 bx aG
  have m:Mem W bw w (aF::bq::ib aa 49 [v0]::ib ab 2 [(iv x1)]::ib ac 31 [(iv 0),sn,sn]::ib ah 3 [(iv ad.2)]::ib aH 49 [aE]::ib aM 78 [(pb aN)]::ib aN 80 [v0,sn,aO,br]::H):=m.fr 8
  obtain⟨bA,bB,m,bC⟩:=Ow.stamp (RI.mono _) aG m
  have h0:=rd1 bB h0
  have bs:=Ow.mono (RSl.mono (RI.mono _)) bB bs
  have bv:=rd1 bB bv
  have bz:=RSr.mono trivial _ _ _ _ bB bz
  have m:=m.fr 5
  have m:=m.fr 1
  have m:Mem W bA w (ib aN 80 [v0,sn,aO,br]::bq::ib aH 49 [aE]::ib aa 49 [v0]::ib ab 2 [(iv x1)]::ib ac 31 [(iv 0),sn,sn]::ib ah 3 [(iv ad.2)]::ib aM 78 [(pb aN)]::H):=m.fr 7
  have m:=m.fr 7
  have m:=m.fr 5
  have m:Mem W bA w (ib ah 3 [(iv ad.2)]::ib ab 2 [(iv x1)]::ib aM 78 [(pb aN)]::ib aN 80 [v0,sn,aO,br]::bq::ib aH 49 [aE]::ib aa 49 [v0]::ib ac 31 [(iv 0),sn,sn]::H):=m.fr 7
  have m:Mem W bA w (ib aa 49 [v0]::ib ah 3 [(iv ad.2)]::ib ab 2 [(iv x1)]::ib aM 78 [(pb aN)]::ib aN 80 [v0,sn,aO,br]::bq::ib aH 49 [aE]::ib ac 31 [(iv 0),sn,sn]::H):=m.fr 6
  have⟨bD,bE,hd⟩:=bind_some hd
  refine Az f Z call48 (Wk.d hW m h0 h0 bv bz bs bC bE) λbF bG bH w bI m bJ a f=> ?_
  obtain⟨bK,bL,bM,rfl,rfl,bN,bO⟩:=bJ
  refine Ac f Z λa f=>Aa (Ag (Ae ?_))
  refine Ab f Z λa f=>l_o f (Bp (f.e Z)) λa f=>Aa ?_
  rcases Af hd with⟨bP,hd⟩|⟨bP,hd⟩
  ·refine Al f Z bP ?_
   refine Ae ?_
   have bQ:∀w,(Instr.build 31 #[]).run prog w= .ok (.agg #[(iv 0),sn,sn]) w:=by intro w;simp[Instr.build,Instr.fill,A8,A6,AT,AZ,AP,A9]
   refine Bl f Z Z bQ λa f=>Ai 7 0 (ds:=[(iv 0),sn,sn]) m sizeOf31 f Z Z Z (Ah Z (Ah Z (Ah Z An))) Z (lb Z) Z λw m=>Ac f Z λa f=>Aa ?_
   refine Am ?_
   obtain⟨bR,m,bS⟩:=Ow.nil R0 2 m
   obtain⟨bT,m,bU⟩:=Ow.nil R1 29 m
   have bV:=A2 (P:=prog) 9 m Ag31 f (s:=4) rfl rfl rfl
   have m:=m.fr 1
   have m:=m.fr 7
   have m:Mem W bG w (bT::bM::bR::ib aa 49 [v0]::ib ah 3 [(iv ad.2)]::ib ab 2 [(iv x1)]::ib aM 78 [(pb aN)]::ib aN 80 [v0,bK,aO,bL]::ib aH 49 [aE]::ib ac 31 [(iv 0),sn,sn]::H):=m.fr 2
   have m:=m.fr 2
   have m:=m.eraseAt 9
   have m:Mem W bG w (bR::bT::bM::ib aa 49 [v0]::ib ah 3 [(iv ad.2)]::ib ab 2 [(iv x1)]::ib aM 78 [(pb aN)]::ib aN 80 [v0,bK,aO,bL]::H):=m.eraseAt 8
   have m:=m.eraseAt 7
   have m:=m.eraseAt 6
   have m:Mem W bG w (bR::bT::bM::ib aa 49 [v0]::ib ah 3 [(iv ad.2)]::H):=m.eraseAt 5
   have m:=m.eraseAt 4
   have m:=m.eraseAt 3
   have m:=m.eraseAt 2
   obtain rfl:=sj hd
   exact⟨[(.agg #[(iv 0),sn,sn]),(.bool false)],⟨bV,f.get _ _ Z,trivial⟩,f.d,_,[bR,bT],(gt ag (gt an (gt aC (gt bj (gt bm (gt bu (gt bx (gt bB bI)))))))),m,_,_,_,_,Z,Z,bS,bU⟩
  ·refine Aj f Z bP ?_
   refine Ao ?_
   refine Ag ?_
   have⟨bW,bX,hd⟩:=bind_some hd
   refine AR (λa w=>∃bY:LI,bY=bW∧∃(bZ:GH) (b0:Nat) (b1:Value) (b2:Itm),GLe bG bZ∧Fr a 69 [(4,(pb ac)),(9,(pb aM)),(11,(pb b0))]∧Mem W bZ w (ib ac 31 [(iv 0),sn,sn]::ib aM 78 [(pb aN)]::ib aN 80 [v0,bK,aO,bL]::ib b0 31 [(iv x1),b1,sn]::b2::bM::H)∧Ow R0 2 bZ b2 b1 bY) ?_ ?_
   ·refine Bc 8 AW (by kernel_rfl) m ?_
    refine Bd 0 8 2 Pl2 Z Z Z f Z λa f=>Bd 1 8 3 CI Z Z Z f Z λa f=>q_p 2 8 Z f (λ_=>Ba (f.e Z)) λa f=>BB 3 8 underlying80 Z sizeOf61 Z f Z λa f=>Bd 4 8 4 CU Z Z Z f Z λa f=>Cf (i:=5) (j:=7) (l1:= #[true,true,true,true,true,true,false,false,false]) (l2:= #[true,true,true,true,true,false,false,true,false]) Z Z (by kernel_rfl) Z Z ?_ ?_
    ·intro b3 w b4 m b5 b5
     have bN:=rd1 b4 bN
     have⟨b6,b7,bX⟩:=bind_some bX
     refine Az f Z call56 (Wk.A m bN b7) λb8 b9 ca w cb m cc a f=> ?_
     obtain⟨cd,ce,rfl,rfl,cf⟩:=cc
     refine Aa ?_
     refine b5 b9 [ce] _ _ cb m ?_
     refine Cf (i:=6) (j:=7) (l1:= #[true,true,true,true,true,true,true,false,false]) (l2:= #[true,true,true,true,true,true,false,true,false]) Z Z (by kernel_rfl) Z Z ?_ ?_
     ·intro cg w ch m ci ci
      have cf:=od1 ch cf
      have cj:∀w,(Instr.build 31 #[(0,(iv x1)),(1,cd)]).run prog w= .ok (.agg #[(iv x1),cd,sn]) w:=by intro w;simp[Instr.build,Instr.fill,(Ow.cells 0 m cf rfl),A8,A6,AT,AZ,AP,A9]
      refine Bl f Z Z cj λa f=>Aa ?_
      refine ci cg [ce] _ _ gr m ?_
      refine A3 7 Z λck w cl m cm cm=> ?_
      have cf:=od1 cl cf
      refine AH (cs:=[(iv 0),sn,sn]) zeroValue31 m f Z Z λcn w a m f=>Aa ?_
      refine cm ck [ib cn 31 [(iv 0),sn,sn],ce] _ _ gr m ?_
      refine A1 λco w cp m=> ?_
      have cf:=od1 cp cf
      refine Ai 0 0 (ds:=[(iv x1),cd,sn]) m sizeOf31 f Z Z Z (Ah Z (Ah (Ow.one1 1 m cf Z) (Ah Z An))) Z (lb Z) Z λw m=>Aa ?_
      have m:=m.fr 7
      have m:=m.fr 2
      have m:Mem W co w (ib cn 31 [(iv x1),cd,sn]::ce::bM::ib aa 49 [v0]::ib ah 3 [(iv ad.2)]::ib ab 2 [(iv x1)]::ib aM 78 [(pb aN)]::ib aN 80 [v0,bK,aO,bL]::ib aH 49 [aE]::ib ac 31 [(iv 0),sn,sn]::H):=m.fr 2
      have m:=m.fr 7
      have m:=m.fr 7
      have m:Mem W co w (ib ac 31 [(iv 0),sn,sn]::ib aM 78 [(pb aN)]::ib aN 80 [v0,bK,aO,bL]::ib cn 31 [(iv x1),cd,sn]::ce::bM::ib aa 49 [v0]::ib ah 3 [(iv ad.2)]::ib ab 2 [(iv x1)]::ib aH 49 [aE]::H):=m.fr 9
      have m:=m.eraseAt 9
      have m:=m.eraseAt 8
      have m:Mem W co w (ib ac 31 [(iv 0),sn,sn]::ib aM 78 [(pb aN)]::ib aN 80 [v0,bK,aO,bL]::ib cn 31 [(iv x1),cd,sn]::ce::bM::ib aa 49 [v0]::H):=m.eraseAt 7
      have m:Mem W co w (ib ac 31 [(iv 0),sn,sn]::ib aM 78 [(pb aN)]::ib aN 80 [v0,bK,aO,bL]::ib cn 31 [(iv x1),cd,sn]::ce::bM::H):=m.eraseAt 6
      obtain rfl:=sj bX
      exact⟨_,Z,_,cn,cd,ce,(gt b4 (gt cb (gt ch (gt cl cp)))),f.k Z,m,cf⟩
     ·intro ck w cl m cm cm
      have cf:=od1 cl cf
      refine AH (cs:=[(iv 0),sn,sn]) zeroValue31 m f Z Z λcn w a m f=>Aa ?_
      refine cm ck [ib cn 31 [(iv 0),sn,sn],ce] _ _ gr m ?_
      refine A3 6 Z λcg w ch m ci ci=> ?_
      have cf:=od1 ch cf
      have cj:∀w,(Instr.build 31 #[(0,(iv x1)),(1,cd)]).run prog w= .ok (.agg #[(iv x1),cd,sn]) w:=by intro w;simp[Instr.build,Instr.fill,(Ow.cells 1 m cf rfl),A8,A6,AT,AZ,AP,A9]
      refine Bl f Z Z cj λa f=>Aa ?_
      refine ci cg [ib cn 31 [(iv 0),sn,sn],ce] _ _ gr m ?_
      refine A1 λco w cp m=> ?_
      have cf:=od1 cp cf
      refine Ai 0 0 (ds:=[(iv x1),cd,sn]) m sizeOf31 f Z Z Z (Ah Z (Ah (Ow.one1 1 m cf Z) (Ah Z An))) Z (lb Z) Z λw m=>Aa ?_
      have m:=m.fr 7
      have m:=m.fr 2
      have m:Mem W co w (ib cn 31 [(iv x1),cd,sn]::ce::bM::ib aa 49 [v0]::ib ah 3 [(iv ad.2)]::ib ab 2 [(iv x1)]::ib aM 78 [(pb aN)]::ib aN 80 [v0,bK,aO,bL]::ib aH 49 [aE]::ib ac 31 [(iv 0),sn,sn]::H):=m.fr 2
      have m:=m.fr 7
      have m:=m.fr 7
      have m:Mem W co w (ib ac 31 [(iv 0),sn,sn]::ib aM 78 [(pb aN)]::ib aN 80 [v0,bK,aO,bL]::ib cn 31 [(iv x1),cd,sn]::ce::bM::ib aa 49 [v0]::ib ah 3 [(iv ad.2)]::ib ab 2 [(iv x1)]::ib aH 49 [aE]::H):=m.fr 9
      have m:=m.eraseAt 9
      have m:=m.eraseAt 8
      have m:Mem W co w (ib ac 31 [(iv 0),sn,sn]::ib aM 78 [(pb aN)]::ib aN 80 [v0,bK,aO,bL]::ib cn 31 [(iv x1),cd,sn]::ce::bM::ib aa 49 [v0]::H):=m.eraseAt 7
      have m:Mem W co w (ib ac 31 [(iv 0),sn,sn]::ib aM 78 [(pb aN)]::ib aN 80 [v0,bK,aO,bL]::ib cn 31 [(iv x1),cd,sn]::ce::bM::H):=m.eraseAt 6
      obtain rfl:=sj bX
      exact⟨_,Z,_,cn,cd,ce,(gt b4 (gt cb (gt cl (gt ch cp)))),f.k Z,m,cf⟩
    ·intro ck w cl m cm cm
     have⟨b6,b7,bX⟩:=bind_some bX
     have bN:=rd1 cl bN
     refine AH (cs:=[(iv 0),sn,sn]) zeroValue31 m f Z Z λcn w a m f=>Aa ?_
     refine cm ck [ib cn 31 [(iv 0),sn,sn]] _ _ gr m ?_
     refine A3 5 Z λb3 w b4 m b5 b5=> ?_
     have bN:=rd1 b4 bN
     refine Az f Z call56 (Wk.A m bN b7) λb8 b9 ca w cb m cc a f=> ?_
     obtain⟨cd,ce,rfl,rfl,cf⟩:=cc
     refine Aa ?_
     refine b5 b9 [ce,ib cn 31 [(iv 0),sn,sn]] _ _ cb m ?_
     refine A3 6 Z λcg w ch m ci ci=> ?_
     have cf:=od1 ch cf
     have cj:∀w,(Instr.build 31 #[(0,(iv x1)),(1,cd)]).run prog w= .ok (.agg #[(iv x1),cd,sn]) w:=by intro w;simp[Instr.build,Instr.fill,(Ow.cells 0 m cf rfl),A8,A6,AT,AZ,AP,A9]
     refine Bl f Z Z cj λa f=>Aa ?_
     refine ci cg [ce,ib cn 31 [(iv 0),sn,sn]] _ _ gr m ?_
     refine A1 λco w cp m=> ?_
     have cf:=od1 cp cf
     refine Ai 1 0 (ds:=[(iv x1),cd,sn]) m sizeOf31 f Z Z Z (Ah Z (Ah (Ow.one1 0 m cf Z) (Ah Z An))) Z (lb Z) Z λw m=>Aa ?_
     have m:=m.fr 7
     have m:=m.fr 1
     have m:Mem W co w (ib cn 31 [(iv x1),cd,sn]::ce::bM::ib aa 49 [v0]::ib ah 3 [(iv ad.2)]::ib ab 2 [(iv x1)]::ib aM 78 [(pb aN)]::ib aN 80 [v0,bK,aO,bL]::ib aH 49 [aE]::ib ac 31 [(iv 0),sn,sn]::H):=m.fr 2
     have m:=m.fr 7
     have m:=m.fr 7
     have m:Mem W co w (ib ac 31 [(iv 0),sn,sn]::ib aM 78 [(pb aN)]::ib aN 80 [v0,bK,aO,bL]::ib cn 31 [(iv x1),cd,sn]::ce::bM::ib aa 49 [v0]::ib ah 3 [(iv ad.2)]::ib ab 2 [(iv x1)]::ib aH 49 [aE]::H):=m.fr 9
     have m:=m.eraseAt 9
     have m:=m.eraseAt 8
     have m:Mem W co w (ib ac 31 [(iv 0),sn,sn]::ib aM 78 [(pb aN)]::ib aN 80 [v0,bK,aO,bL]::ib cn 31 [(iv x1),cd,sn]::ce::bM::ib aa 49 [v0]::H):=m.eraseAt 7
     have m:Mem W co w (ib ac 31 [(iv 0),sn,sn]::ib aM 78 [(pb aN)]::ib aN 80 [v0,bK,aO,bL]::ib cn 31 [(iv x1),cd,sn]::ce::bM::H):=m.eraseAt 6
     obtain rfl:=sj bX
     exact⟨_,Z,_,cn,cd,ce,(gt cl (gt b4 (gt cb (gt ch cp)))),f.k Z,m,cf⟩
   ·rintro a w ⟨bY,rfl,bZ,b0,b1,b2,cq,f,m,cr⟩
    have bO:=Ow.mono (RSl.mono (RI.mono _)) cq bO
    refine Ag (Ae ?_)
    refine AE 1 0 m CI f Z Z Z Z λa f=>l_o f (Ba (f.e Z)) λa f=>Bh underlying80 Z sizeOf51 f Z λa f=>AE 2 3 m Pl51 f Z Z Z Z λa f=>Bw 5 m bO Z underlying51 f Z Z λa f=>Ab f Z λa f=>Aa ?_
    obtain⟨ct,m,cu⟩:=Ow.nil R1 29 m
    have⟨cv,cw,hd⟩:=bind_some hd
    refine AR (λa w=>∃cx:LL,cx=cv∧∃(cy:GH) (cz:Value) (cA:Itm),GLe bZ cy∧Fr a 69 [(4,(pb ac)),(11,(pb b0))]∧Mem W cy w (ib ac 31 [(iv 0),sn,sn]::ib b0 31 [(iv x1),b1,cz]::b2::cA::H)∧Ow R1 29 cy cA cz cx) ?_ ?_
    ·refine Ap ?_
     have m:=m.fr 5
     have m:=m.fr 6
     have m:Mem W bZ w (ib b0 31 [(iv x1),b1,sn]::bM::b2::ct::ib ac 31 [(iv 0),sn,sn]::ib aM 78 [(pb aN)]::ib aN 80 [v0,bK,aO,bL]::H):=m.fr 6
     have m:=m.fr 4
     have m:=m.eraseAt 6
     have m:Mem W bZ w (ib ac 31 [(iv 0),sn,sn]::ib b0 31 [(iv x1),b1,sn]::bM::b2::ct::H):=m.eraseAt 5
     refine AQ (λcB a w=>∃cC:Int,∃cD:LL,(cC,cD)=cB∧∃(cE:GH) (cF:Value) (cG:Itm),GLe bZ cE∧Fr a 69 [(4,(pb ac)),(11,(pb b0)),(54,bL),(55,(iv (bD.2.2.length:Int))),(56,(iv cC))]∧Mem W cE w (ib ac 31 [(iv 0),sn,sn]::ib b0 31 [(iv x1),b1,cF]::bM::b2::cG::H)∧Ow R1 29 cE cG cF cD) cw ⟨_,_,Z,_,sn,ct,gr,f.k Z,m,cu⟩ ?_
     clear cw f m
     rintro cB cH cI cJ a w ⟨cC,cD,rfl,cE,cF,cG,cK,f,m,cL⟩
     have bO:=Ow.mono (RSl.mono (RI.mono _)) cK bO
     refine Ae ?_
     refine Ak f Z Z AV λa f=>Aa (Ag ?_)
     rcases Af cI with⟨cM,cI⟩|⟨cM,cI⟩
     ·refine Al f Z cM ?_
      refine Ao ?_
      refine Ag (Ap (Ae ?_))
      have⟨cN,cO,cI⟩:=bind_some cI
      refine BH 2 m bO Z T51 f Z Z Z cO λcP a cQ f=>BF 2 m bO Z CU f Z Z cQ cO λcR a cS f=>Ac f Z λa f=>Aa ?_
      refine Bc 5 AW (by kernel_rfl) m ?_
      refine BB 0 5 underlying31 Z sizeOf24 Z f Z λa f=>Bd 1 5 1 Bk Z Z Z f Z λa f=>Ay 2 5 Z f Z λa f=>A3 3 Z λcT w cU m cV cV=> ?_
      have cS:=rd1 cU cS
      have cL:=Ow.mono (RSl.mono (RI.mono _)) cU cL
      have⟨cW,cX,cI⟩:=bind_some cI
      refine Az f Z call56 (Wk.A m cS cX) λcY cZ c0 w c1 m c2 a f=> ?_
      obtain⟨c3,c4,rfl,rfl,c5⟩:=c2
      have cL:=Ow.mono (RSl.mono (RI.mono _)) c1 cL
      refine Aa ?_
      refine cV cZ [c4] _ _ c1 m ?_
      refine A3 4 Z λc6 w c7 m c8 c8=> ?_
      have c5:=od1 c7 c5
      have cL:=Ow.mono (RSl.mono (RI.mono _)) c7 cL
      obtain⟨c9,da,m,db⟩:=Ow.stamp (RI.mono _) c5 m
      have cL:=Ow.mono (RSl.mono (RI.mono _)) da cL
      refine AU (R:=R1) (xs:=([cW]:LL)) (RSl.one _) m T24 f Z Z Z (by decide) (All2.cons db (All2.nil _)) λdc dd w a m de f=>Aa ?_
      refine c8 c9 [dc] _ _ da m ?_
      refine A1 λdf w dg m=> ?_
      have de:=Ow.mono (RSl.mono (RI.mono _)) dg de
      have cL:=Ow.mono (RSl.mono (RI.mono _)) dg cL
      have⟨dh,di,cI⟩:=bind_some cI
      refine AX (RSl.one _) 5 m cL Z T24 Z (by decide) f Z Z Z (Ow.src (j:=0) de m Z) di λdj dk w a m dl f=>Bh underlying31 Z sizeOf24 f Z λa f=>Ai 2 2 (ds:=[dk]) m sizeOf24 f Z Z (Ow.cells 5 m dl Z) (Ah (Ow.one1 5 m dl Z) An) Z (lb Z) Z λw m=>Aa (Aq ?_)
      refine Ak f Z Z AD λa f=>Ab f Z λa f=>Aa ?_
      have m:=m.fr 5
      have m:=m.fr 5
      have m:Mem W df w (bM::b2::dj::dc::ib ac 31 [(iv 0),sn,sn]::ib b0 31 [(iv x1),b1,dk]::H):=m.fr 5
      have m:=m.fr 5
      have m:=m.fr 5
      have m:Mem W df w (ib ac 31 [(iv 0),sn,sn]::ib b0 31 [(iv x1),b1,dk]::bM::b2::dj::H):=m.eraseAt 5
      obtain rfl:=sj cI
      exact⟨_,Z,_,_,Z,_,dk,dj,(gt cK (gt cU (gt c1 (gt c7 (gt da dg))))),f.k Z,m,dl⟩
     ·refine Aj f Z cM ?_
      refine AO Z ?_
      have m:=m.fr 4
      have m:=m.fr 4
      have m:Mem W cE w (ib b0 31 [(iv x1),b1,cF]::b2::cG::ib ac 31 [(iv 0),sn,sn]::bM::H):=m.fr 3
      have m:=m.fr 3
      have m:Mem W cE w (ib ac 31 [(iv 0),sn,sn]::ib b0 31 [(iv x1),b1,cF]::b2::cG::H):=m.eraseAt 4
      obtain rfl:=sj cI
      obtain rfl:=cJ _ rfl
      exact⟨_,Z,_,cF,cG,cK,f.k Z,m,cL⟩
    ·rintro a w ⟨cx,rfl,cy,cz,cA,dm,f,m,dn⟩
     have cr:=od1 dm cr
     refine Ae ?_
     refine Au 1 0 (ds:=[(iv x1),b1,cz]) m Ag31 f Z Z Z Z Z λa f=>Ai 0 0 (ds:=[(iv x1),b1,cz]) m sizeOf31 f Z Z Z (Ah Z (Ah (Ow.one1 2 m cr Z) (Ah (Ow.one1 3 m dn Z) An))) Z (lb Z) Z λw m=>Ac f Z λa f=>Aa ?_
     refine Am ?_
     have dp:=A2 (P:=prog) 0 m Ag31 f (s:=4) rfl rfl rfl
     have m:=m.fr 3
     have m:=m.fr 3
     have m:Mem W cy w (b2::cA::ib ac 31 [(iv x1),b1,cz]::H):=m.eraseAt 3
     have m:=m.eraseAt 2
     obtain rfl:=sj hd
     exact⟨[(.agg #[(iv x1),b1,cz]),(.bool true)],⟨dp,f.get _ _ Z,trivial⟩,f.d,_,[b2,cA],(gt ag (gt an (gt aC (gt bj (gt bm (gt bu (gt bx (gt bB (gt bI (gt cq dm)))))))))),m,_,_,_,_,Z,Z,cr,dn⟩
theorem Wk.C {aa:Value}{ab:LL}{x1:Int}(hW:B4 W)(m:Mem W G w (H))(ac:R2 G aa ab){y:Int×(LI)×(LL)×Bool}(hd:D.C ab x1=some y):
  Calls prog 6 #[(.agg #[aa]),(iv x1)] w (Res W G H (λG' Ho v=>∃r0:Value,∃i0:Itm,∃r2:Value,∃i2:Itm,Ho=[i0,i2]∧v= .tuple #[(.agg #[(iv y.1),r0,r2]),(.bool y.2.2.2)]∧Ow R0 2 G' i0 r0 y.2.1∧Ow R1 29 G' i2 r2 y.2.2.1)):=by
 refine Aw (args:=[(.agg #[aa]),(iv x1)]) (N:=27) [.cell 4 31,.tmp 5] func6 Z Z (lb Z) Z λa f=> ?_
 unfold D.C at hd
 refine Ae ?_
 refine Bf (cs:=[aa]) m f Z Z Z λad w a m f=>AH (cs:=[(iv 0),sn,sn]) zeroValue31 m f Z Z λae w a m f=>Ac f Z λa f=>Aa (Ag (Ae ?_))
 refine Ab f Z λa f=> ?_
 have⟨af,ag,hd⟩:=bind_some hd
 refine A4 f Z call18 (Wk.v m ag) λah w ai m a f=> ?_
 have ac:=rd2 ai ac
 refine Ab f Z λa f=>l_o f (AB (f.e Z) Z) λa f=>l_o f (AB (f.e Z) Z) λa f=>Ac f Z λa f=>Ac f Z λa f=>AG ?_
 refine Au 1 0 (ds:=[aa]) m AA f Z Z Z Z Z λa f=> ?_
 have⟨aj,ak,hd⟩:=bind_some hd
 refine A4 f Z call19 (Wk.p0 m ac ak) λal w am m a f=> ?_
 have ac:=rd2 am ac
 refine l_o f (Bp (f.e Z)) λa f=>Ab f Z λa f=> ?_
 refine Be 3 (λa w=>∃an,GLe al an∧Mem W an w (ib ae 31 [(iv 0),sn,sn]::ib ad 26 [aa]::H)∧Fr a 27 [(0,(.agg #[aa])),(1,(iv x1)),(2,(pb ad)),(4,(pb ae)),(6,(iv af.1)),(7,(iv af.2)),(13,(.agg #[aa])),(14,(.bool aj)),(15,(.bool (!aj))),(16,(.bool (!aj))),(19,(.bool ((!aj)||(af.1==0))))]) ?_ ?_
 ·rcases Bool.eq_false_or_eq_true (!aj) with ao|ao
  ·refine As f ao λa f=> ?_
   refine As f ao λa f=>l_o f (AK (f.e Z) ao (f.e Z)) λa f=> ?_
   exact⟨_,gr,m,f.weak ⟨Z,Z,Z,Z,Z,Z,Z,Z,Z,Z,by rw[ao];rfl,trivial⟩⟩
  ·refine Ar f ao ?_
   refine Ab f Z λa f=>Ar f ao ?_
   refine Ak f Z Z Bj λa f=>l_o f (AL (f.e Z) ao (f.e Z)) λa f=> ?_
   exact⟨_,gr,m,f.weak ⟨Z,Z,Z,Z,Z,Z,Z,Z,Z,Z,by rw[ao];rfl,trivial⟩⟩
 ·rintro a w ⟨an,ap,m,f⟩
  have ac:=rd2 ap ac
  refine Aa ?_
  rcases Af hd with⟨aq,hd⟩|⟨aq,hd⟩
  ·refine Al f Z aq ?_
   refine Ae ?_
   have ar:∀w,(Instr.build 31 #[]).run prog w= .ok (.agg #[(iv 0),sn,sn]) w:=by intro w;simp[Instr.build,Instr.fill,A8,A6,AT,AZ,AP,A9]
   refine Bl f Z Z ar λa f=>Ai 0 0 (ds:=[(iv 0),sn,sn]) m sizeOf31 f Z Z Z (Ah Z (Ah Z (Ah Z An))) Z (lb Z) Z λw m=>Ac f Z λa f=>Aa ?_
   refine Am ?_
   obtain⟨au,m,av⟩:=Ow.nil R0 2 m
   obtain⟨aw,m,ax⟩:=Ow.nil R1 29 m
   have ay:=A2 (P:=prog) 2 m Ag31 f (s:=4) rfl rfl rfl
   have m:=m.fr 1
   have m:=m.eraseAt 3
   have m:=m.eraseAt 2
   obtain rfl:=sj hd
   exact⟨[(.agg #[(iv 0),sn,sn]),(.bool false)],⟨ay,f.get _ _ Z,trivial⟩,f.d,_,[au,aw],(gt ai (gt am ap)),m,_,_,_,_,Z,Z,av,ax⟩
  ·refine Aj f Z aq ?_
   refine Ao ?_
   refine Ae ?_
   refine Au 1 0 (ds:=[aa]) m AA f Z Z Z Z Z λa f=> ?_
   have⟨az,aA,hd⟩:=bind_some hd
   refine Az f Z call21 (Wk.e0 m ac aA) λaB aC aD w aE m aF a f=> ?_
   obtain⟨aG,aH,rfl,rfl,aI⟩:=aF
   refine Ab f Z λa f=> ?_
   obtain⟨aJ,aK,m,aL⟩:=Ow.stamp (RI.mono _) aI m
   have⟨aM,aN,hd⟩:=bind_some hd
   refine Az f Z call20 (Wk.h hW m aL aN) λaO aP aQ w aR m aS a f=> ?_
   obtain⟨aT,aU,aV,aW,rfl,rfl,aX,aY⟩:=aS
   refine l_o f (AB (f.e Z) Z) λa f=>l_o f (AB (f.e Z) Z) λa f=>Ai 2 0 (ds:=[(iv aM.1),aT,aV]) m sizeOf31 f Z Z Z (Ah Z (Ah (Ow.one1 0 m aX Z) (Ah (Ow.one1 1 m aY Z) An))) Z (lb Z) Z λw m=>Ac f Z λa f=>Aa ?_
   refine Am ?_
   have aZ:=A2 (P:=prog) 2 m Ag31 f (s:=4) rfl rfl rfl
   have m:=m.eraseAt 3
   have m:=m.eraseAt 2
   obtain rfl:=sj hd
   exact⟨[(.agg #[(iv aM.1),aT,aV]),(.bool aM.2.2.2)],⟨aZ,f.get _ _ Z,trivial⟩,f.d,_,[aU,aW],(gt ai (gt am (gt ap (gt aE (gt aK aR))))),m,_,_,_,_,Z,Z,aX,aY⟩
theorem Wk.I0 {aa:Value}{ab:LL}(m:Mem W G w (H))(ac:R2 G aa ab){y:Bool}(hd:D.I0 ab=some y):
  Calls prog 23 #[(.agg #[aa])] w (Res W G H (λ_ Ho v=>Ho=[]∧v=(.bool y))):=by
 refine Aw (args:=[(.agg #[aa])]) (N:=11) [.tmp 2] func23 Z Z (lb Z) Z λa f=> ?_
 unfold D.I0 at hd
 refine Ae ?_
 refine Bf (cs:=[aa]) m f Z Z Z λad w a m f=>Ac f Z λa f=>AG ?_
 refine Au 0 0 (ds:=[aa]) m AA f Z Z Z Z Z λa f=> ?_
 have⟨ae,af,hd⟩:=bind_some hd
 refine A4 f Z call10 (Wk.p m ac af) λag w ah m a f=> ?_
 have ac:=rd2 ah ac
 refine Ab f Z λa f=> ?_
 refine Be 5 (λa w=>∃ai,GLe ag ai∧Mem W ai w (ib ad 26 [aa]::H)∧Fr a 11 [(0,(.agg #[aa])),(1,(pb ad)),(3,(.agg #[aa])),(4,(.bool ae)),(5,(.bool ae)),(10,(.bool (ae&&(decide ((ab.length:Int)≤8)))))]) ?_ ?_
 ·rcases Bool.eq_false_or_eq_true ae with aj|aj
  ·refine Ar f aj ?_
   refine Bh underlying26 Z sizeOf24 f Z λa f=>Ar f aj ?_
   refine AE 0 0 m Bk f Z Z Z Z λa f=>Ar f aj ?_
   refine Bb underlying24 f Z Z ac λa f=>Ar f aj ?_
   refine Ak f Z Z Ch λa f=>l_o f (AK (f.e Z) aj (f.e Z)) λa f=> ?_
   exact⟨_,gr,m,f.weak ⟨Z,Z,Z,Z,Z,by rw[aj];rfl,trivial⟩⟩
  ·refine As f aj λa f=> ?_
   refine As f aj λa f=>As f aj λa f=>As f aj λa f=>l_o f (AL (f.e Z) aj (f.e Z)) λa f=> ?_
   exact⟨_,gr,m,f.weak ⟨Z,Z,Z,Z,Z,by rw[aj];rfl,trivial⟩⟩
 ·rintro a w ⟨ai,ak,m,f⟩
  refine Ac f Z λa f=>Aa ?_
  refine Am ?_
  have m:Mem W ai w H:=Mem.drop (H':=[ib ad 26 [aa]]) m
  obtain rfl:=sj hd
  exact⟨[(.bool (ae&&(decide ((ab.length:Int)≤8))))],f.g Z,f.d,_,[],(gt ah ak),m,Z,Z⟩
theorem Wk.k0 {v0:Value}{x0:LI}(m:Mem W G w (H))(h0:R1 G v0 x0){y:Bool}(hd:D.k0 x0=some y):
  Calls prog 58 #[v0] w (Res W G H (λ_ Ho v=>Ho=[]∧v=(.bool y))):=by
 refine Aw (args:=[v0]) (N:=20) [.tmp 2] func58 Z Z (lb Z) Z λa f=> ?_
 unfold D.k0 at hd
 refine Ae ?_
 refine Ac f Z λa f=>Aa (Ag (Ae ?_))
 refine Ac f Z λa f=>Aa ?_
 have⟨aa,ab,hd⟩:=bind_some hd
 refine AR (λa w=>∃q_35':Unit,aa= .inl q_35'∧∃(ac:GH),GLe G ac∧Fr a 20 []∧Mem W ac w (H)) ?_ ?_
 ·refine Ap ?_
  refine AQ (λad a w=>∃ae:Int,ae=ad∧∃(af:GH),GLe G af∧Fr a 20 [(0,v0),(3,(iv ae))]∧Mem W af w (H)) ab ⟨_,Z,_,gr,f.k Z,m⟩ ?_
  clear ab f m
  rintro ad ag ah ai a w ⟨ae,rfl,af,aj,f,m⟩
  have h0:=rd1 aj h0
  refine Ag (Ae ?_)
  refine Ab f Z λa f=>Ab f Z λa f=>Bb underlying29 f Z Z h0 λa f=>Ak f Z Z AV λa f=>Aa ?_
  rcases Af ah with⟨ak,ah⟩|⟨ak,ah⟩
  ·refine Al f Z ak ?_
   refine Ao ?_
   refine Ag (Ap (Ag ?_))
   refine Bc 10 AW (by kernel_rfl) m ?_
   refine Ay 0 10 Z f Z λa f=>Ay 1 10 Z f Z λa f=> ?_
   have⟨al,am,ah⟩:=bind_some ah
   refine Bs 2 10 T29 h0 am Z f Z Z λan ao a ap aq f=> ?_
   subst aq
   refine Bq 3 10 Pl2 ap Z f Z λa f=>Ay 4 10 Z f Z λa f=>Ay 5 10 Z f Z λa f=>q_p 6 10 Z f (λ_=>Bi (f.e Z) (f.e Z) BO) λa f=> ?_
   have⟨ar,au,ah⟩:=bind_some ah
   refine Bs 7 10 T29 h0 au Z f Z Z λav aw a ax ay f=> ?_
   subst ay
   refine Bq 8 10 Pl2 ax Z f Z λa f=>q_p 9 10 Z f (λ_=>Bi (f.e Z) (f.e Z) Ch) λa f=>A1 λaz w aA m=>Aa ?_
   rcases Af ah with⟨aB,ah⟩|⟨aB,ah⟩
   ·refine Al f Z aB ?_
    refine Ae ?_
    refine Ac f Z λa f=>Aa ?_
    refine Am ?_
    obtain rfl:=sj ah
    obtain rfl:=ai _ rfl
    obtain rfl:=sj hd
    exact⟨[(.bool false)],f.g Z,f.d,_,[],(gt aj aA),m,Z,Z⟩
   ·refine Aj f Z aB ?_
    refine Ao ?_
    refine Aq ?_
    refine Ab f Z λa f=>Ak f Z Z AD λa f=>Ac f Z λa f=>Aa ?_
    obtain rfl:=sj ah
    exact⟨_,Z,_,Z,_,(gt aj aA),f.k Z,m⟩
  ·refine Aj f Z ak ?_
   refine AO Z ?_
   obtain rfl:=sj ah
   obtain rfl:=ai _ rfl
   exact⟨_,Z,_,aj,f.weak trivial,m⟩
 ·rintro a w ⟨_,rfl,ac,aC,f,m⟩
  refine Ae ?_
  refine Ac f Z λa f=>Aa ?_
  refine Am ?_
  obtain rfl:=sj hd
  exact⟨[(.bool true)],f.g Z,f.d,_,[],aC,m,Z,Z⟩
theorem Wk.j0 {aa v2:Value}{ab:LL}{x1:Int}{x2:LI}(m:Mem W G w (H))(ac:R2 G aa ab)(h2:R1 G v2 x2){y:Bool}(hd:D.j0 ab x1 x2=some y):
  Calls prog 27 #[(.agg #[aa]),(iv x1),v2] w (Res W G H (λ_ Ho v=>Ho=[]∧v=(.bool y))):=by
 refine Aw (args:=[(.agg #[aa]),(iv x1),v2]) (N:=75) [.tmp 6] func27 Z Z (lb Z) Z λa f=> ?_
 unfold D.j0 at hd
 refine Ae ?_
 refine Bf (cs:=[aa]) m f Z Z Z λad w a m f=>Ac f Z λa f=>AG ?_
 refine Ab f Z λa f=> ?_
 have⟨ae,af,hd⟩:=bind_some hd
 refine A4 f Z call22 (Wk.q m af) λag w ah m a f=> ?_
 have ac:=rd2 ah ac
 have h2:=rd1 ah h2
 refine Ab f Z λa f=>l_o f (AB (f.e Z) Z) λa f=>l_o f (AB (f.e Z) Z) λa f=>Ac f Z λa f=>Ac f Z λa f=>Aa (Ag (Ag ?_))
 refine Bc 37 AW (by kernel_rfl) m ?_
 refine Ay 0 37 Z f Z λa f=>q_p 1 37 Z f (λ_=>Bi (f.e Z) (f.e Z) Bj) λa f=>Ay 2 37 Z f Z λa f=>B9 (fuel':=27) (listed':= #[true,true,true,true,true,true,true,true,true,true,false,false,false,false,false,false,false,false,false,false,false,false,false,false,false,false,false,false,false,false,false,false,false,false,false,false,false]) (λa=>Fr a 75 [(0,(.agg #[aa])),(1,(iv x1)),(2,v2),(3,(pb ad)),(7,(iv ae.1)),(8,(iv ae.2)),(15,(iv ae.1)),(16,(.bool (ae.1==0))),(17,(.bool (ae.1==0))),(24,(.bool ((ae.1==0)||((x2.length:Int) !=(i64.wrap (ae.1+ae.2))))))]) ?_ ?_
 ·intro a f
  refine Ay 10 37 Z f Z λa f=> ?_
  have⟨ai,aj,hd⟩:=bind_some hd
  refine B9 (fuel':=20) (listed':= #[true,true,true,true,true,true,true,true,true,true,true,true,true,true,true,true,true,false,false,false,false,false,false,false,false,false,false,false,false,false,false,false,false,false,false,false,false]) (λa=>Fr a 75 [(0,(.agg #[aa])),(1,(iv x1)),(2,v2),(3,(pb ad)),(7,(iv ae.1)),(8,(iv ae.2)),(15,(iv ae.1)),(16,(.bool (ae.1==0))),(17,(.bool (ae.1==0))),(24,(.bool ((ae.1==0)||((x2.length:Int) !=(i64.wrap (ae.1+ae.2)))))),(25,(.bool ((ae.1==0)||((x2.length:Int) !=(i64.wrap (ae.1+ae.2)))))),(31,(.bool ai))]) ?_ ?_
  ·intro a f
   refine Ay 17 37 Z f Z λa f=> ?_
   have⟨ak,al,hd⟩:=bind_some hd
   refine B9 (fuel':=13) (listed':= #[true,true,true,true,true,true,true,true,true,true,true,true,true,true,true,true,true,true,true,true,true,true,true,true,false,false,false,false,false,false,false,false,false,false,false,false,false]) (λa=>Fr a 75 [(0,(.agg #[aa])),(1,(iv x1)),(2,v2),(3,(pb ad)),(7,(iv ae.1)),(8,(iv ae.2)),(15,(iv ae.1)),(16,(.bool (ae.1==0))),(17,(.bool (ae.1==0))),(24,(.bool ((ae.1==0)||((x2.length:Int) !=(i64.wrap (ae.1+ae.2)))))),(25,(.bool ((ae.1==0)||((x2.length:Int) !=(i64.wrap (ae.1+ae.2)))))),(31,(.bool ai)),(32,(.bool ai)),(38,(.bool ak))]) ?_ ?_
   ·intro a f
    refine Ay 24 37 Z f Z λa f=> ?_
    have⟨am,an,hd⟩:=bind_some hd
    refine B9 (fuel':=0) (listed':= #[true,true,true,true,true,true,true,true,true,true,true,true,true,true,true,true,true,true,true,true,true,true,true,true,true,true,true,true,true,true,true,true,true,true,true,true,true]) (λa=>Fr a 75 [(0,(.agg #[aa])),(1,(iv x1)),(2,v2),(3,(pb ad)),(7,(iv ae.1)),(8,(iv ae.2)),(15,(iv ae.1)),(16,(.bool (ae.1==0))),(17,(.bool (ae.1==0))),(24,(.bool ((ae.1==0)||((x2.length:Int) !=(i64.wrap (ae.1+ae.2)))))),(25,(.bool ((ae.1==0)||((x2.length:Int) !=(i64.wrap (ae.1+ae.2)))))),(31,(.bool ai)),(32,(.bool ai)),(38,(.bool ak)),(39,(.bool ak)),(51,(.bool am))]) ?_ ?_
    ·intro a f
     refine A1 λao w ap m=> ?_
     have ac:=rd2 ap ac
     have h2:=rd1 ap h2
     refine Aa ?_
     rcases Af hd with⟨aq,hd⟩|⟨aq,hd⟩
     ·refine Al f Z aq ?_
      refine Ae ?_
      refine Ac f Z λa f=>Aa ?_
      refine Am ?_
      have m:Mem W ao w H:=Mem.drop (H':=[ib ad 26 [aa]]) m
      obtain rfl:=sj hd
      exact⟨[(.bool false)],f.g Z,f.d,_,[],(gt ah ap),m,Z,Z⟩
     ·refine Aj f Z aq ?_
      refine Ao ?_
      refine Ag (Ae ?_)
      refine Ac f Z λa f=>Aa ?_
      have⟨ar,au,hd⟩:=bind_some hd
      refine AR (λa w=>∃q_199':Unit,ar= .inl q_199'∧∃(av:GH),GLe ao av∧Fr a 75 []∧Mem W av w (H)) ?_ ?_
      ·refine Ap ?_
       refine AQ (λaw a w=>∃ax:Int,ax=aw∧∃(ay:GH),GLe ao ay∧Fr a 75 [(2,v2),(3,(pb ad)),(9,(iv ax))]∧Mem W ay w (ib ad 26 [aa]::H)) au ⟨_,Z,_,gr,f.k Z,m⟩ ?_
       clear au f m
       rintro aw az aA aB a w ⟨ax,rfl,ay,aC,f,m⟩
       have h2:=rd1 aC h2
       have ac:=rd2 aC ac
       refine Ag (Ae ?_)
       refine Ab f Z λa f=>Ab f Z λa f=>Bb underlying29 f Z Z h2 λa f=>Ak f Z Z AV λa f=>Aa ?_
       rcases Af aA with⟨aD,aA⟩|⟨aD,aA⟩
       ·refine Al f Z aD ?_
        refine Ao ?_
        refine Ag (Ap (Ag ?_))
        refine Bc 17 AW (by kernel_rfl) m ?_
        refine BC (i:=0) (ds:=[aa]) 17 0 AA Z Z Z Z (by kernel_rfl) Z f Z Z Z λa f=>Ay 1 17 Z f Z λa f=>Ay 2 17 Z f Z λa f=> ?_
        have⟨aE,aF,aA⟩:=bind_some aA
        refine Bs 3 17 T29 h2 aF Z f Z Z λaG aH a aI aJ f=> ?_
        subst aJ
        refine Bq 4 17 Pl2 aI Z f Z λa f=> ?_
        have⟨aK,aL,aA⟩:=bind_some aA
        refine BL (i:=5) 17 Z (by kernel_rfl) Z f Z Z Z call59 (λ_ _ w aM m=>Wk.m m (rd2 aM ac) aL) λa f=>q_p 6 17 Z f (λ_=>Bp (f.e Z)) λa f=>Ay 7 17 Z f Z λa f=> ?_
        have⟨aN,aO,aA⟩:=bind_some aA
        refine B9 (fuel':=0) (listed':= #[true,true,true,true,true,true,true,true,true,true,true,true,true,true,true,true,true]) (λa=>Fr a 75 [(2,v2),(3,(pb ad)),(9,(iv ax)),(55,(.bool (decide (ax<(x2.length:Int))))),(58,(.agg #[aa])),(59,v2),(60,(iv ax)),(61,aG),(62,(iv aE)),(63,(.bool aK)),(64,(.bool (!aK))),(65,(.bool (!aK))),(74,(.bool aN))]) ?_ ?_
        ·intro a f
         refine A1 λaP w aQ m=>Aa ?_
         rcases Af aA with⟨aR,aA⟩|⟨aR,aA⟩
         ·refine Al f Z aR ?_
          refine Ae ?_
          refine Ac f Z λa f=>Aa ?_
          refine Am ?_
          have m:Mem W aP w H:=Mem.drop (H':=[ib ad 26 [aa]]) m
          obtain rfl:=sj aA
          obtain rfl:=aB _ rfl
          obtain rfl:=sj hd
          exact⟨[(.bool false)],f.g Z,f.d,_,[],(gt ah (gt ap (gt aC aQ))),m,Z,Z⟩
         ·refine Aj f Z aR ?_
          refine Ao ?_
          refine Aq ?_
          refine Ab f Z λa f=>Ak f Z Z AD λa f=>Ac f Z λa f=>Aa ?_
          obtain rfl:=sj aA
          exact⟨_,Z,_,Z,_,(gt aC aQ),f.k Z,m⟩
        ·intro aS
         rcases Af aO with⟨aT,aO⟩|⟨aT,aO⟩
         ·refine AF 8 17 Z f aT λa f=> ?_
          refine AF 9 17 Z f aT λa f=>AF 10 17 Z f aT λa f=>AF 11 17 Z f aT λa f=>AF 12 17 Z f aT λa f=>AF 13 17 Z f aT λa f=>AF 14 17 Z f aT λa f=>AF 15 17 Z f aT λa f=>q_p 16 17 Z f (λ_=>AK (f.e Z) aT (f.e Z)) λa f=> ?_
          obtain rfl:=sj aO
          exact aS _ (f.k Z)
         ·refine Ay (hw:=wo f aT) 8 17 Z f Z λa f=> ?_
          refine Ay (hw:=wo f aT) 9 17 Z f Z λa f=> ?_
          have⟨aU,aV,aO⟩:=bind_some aO
          refine Cv (i:=10) 17 T29 h2 aV Z (by kernel_rfl) Z f (Br f Z Z Z aT) Z Z (.inl ⟨Z,Z⟩) (.inr ⟨_,_,Z,Z⟩) λaW a aX f=>Ay (hw:=wo f aT) 11 17 Z f Z λa f=>Ay (hw:=wo f aT) 12 17 Z f Z λa f=> ?_
          have⟨aY,aZ,aO⟩:=bind_some aO
          refine Bs (hw:=wo f aT) 13 17 T29 h2 aZ Z f Z Z λa0 a1 a a2 a3 f=> ?_
          subst a3
          refine Bq (hw:=wo f aT) 14 17 Pl2 a2 Z f Z λa f=> ?_
          have⟨a4,a5,aO⟩:=bind_some aO
          refine BL (i:=15) 17 Z (by kernel_rfl) Z f (Br f Z Z Z aT) Z Z call32 (λ_ _ w a6 m=>Wk.g m (rd1 a6 aX) a5) λa f=>q_p 16 17 Z f (λ_=>AL (f.e Z) aT (f.e Z)) λa f=> ?_
          obtain rfl:=sj aO
          exact aS _ (f.k Z)
       ·refine Aj f Z aD ?_
        refine AO Z ?_
        have m:Mem W ay w H:=Mem.drop (H':=[ib ad 26 [aa]]) m
        obtain rfl:=sj aA
        obtain rfl:=aB _ rfl
        exact⟨_,Z,_,aC,f.weak trivial,m⟩
      ·rintro a w ⟨_,rfl,av,a7,f,m⟩
       refine Ae ?_
       refine Ac f Z λa f=>Aa ?_
       refine Am ?_
       obtain rfl:=sj hd
       exact⟨[(.bool true)],f.g Z,f.d,_,[],(gt ah (gt ap a7)),m,Z,Z⟩
    ·intro a8
     rcases Af an with⟨a9,an⟩|⟨a9,an⟩
     ·refine AF 25 37 Z f a9 λa f=> ?_
      refine AF 26 37 Z f a9 λa f=>AF 27 37 Z f a9 λa f=>BR 28 37 Z f λa f=>BR 29 37 Z f λa f=>BR 30 37 Z f λa f=>BR 31 37 Z f λa f=>BR 32 37 Z f λa f=>BR 33 37 Z f λa f=>BR 34 37 Z f λa f=>AF 35 37 Z f a9 λa f=>q_p 36 37 Z f (λ_=>AK (f.e Z) a9 (f.e Z)) λa f=> ?_
      obtain rfl:=sj an
      exact a8 _ (f.k Z)
     ·refine Ay (hw:=wo f a9) 25 37 Z f Z λa f=> ?_
      refine q_p (hw:=wo f a9) 26 37 Z f (λ_=>Bi (f.e Z) (f.e Z) Bj) λa f=>Ay (hw:=wo f a9) 27 37 Z f Z λa f=> ?_
      have⟨ba,bb,an⟩:=bind_some an
      refine B9 (fuel':=1) (listed':= #[true,true,true,true,true,true,true,true,true,true,true,true,true,true,true,true,true,true,true,true,true,true,true,true,true,true,true,true,true,true,true,true,true,true,true,true,false]) (λa=>Fr a 75 [(0,(.agg #[aa])),(1,(iv x1)),(2,v2),(3,(pb ad)),(7,(iv ae.1)),(8,(iv ae.2)),(15,(iv ae.1)),(16,(.bool (ae.1==0))),(17,(.bool (ae.1==0))),(24,(.bool ((ae.1==0)||((x2.length:Int) !=(i64.wrap (ae.1+ae.2)))))),(25,(.bool ((ae.1==0)||((x2.length:Int) !=(i64.wrap (ae.1+ae.2)))))),(31,(.bool ai)),(32,(.bool ai)),(38,(.bool ak)),(39,(.bool ak)),(40,(iv x1)),(41,(.bool (x1==2))),(42,(.bool (x1==2))),(50,(.bool ba))]) ?_ ?_
      ·intro a f
       refine q_p 36 37 Z f (λ_=>AL (f.e Z) a9 (f.e Z)) λa f=> ?_
       obtain rfl:=sj an
       exact a8 _ (f.k Z)
      ·intro bc
       rcases Af bb with⟨bd,bb⟩|⟨bd,bb⟩
       ·refine Ay (hw:=wo f bd) 28 37 Z f Z λa f=> ?_
        have⟨be,bf,bb⟩:=bind_some bb
        refine Bs (hw:=wo f bd) 29 37 T29 h2 bf Z f Z Z λbg bh a bi bj f=> ?_
        subst bj
        refine Bq (hw:=wo f bd) 30 37 Pl2 bi Z f Z λa f=>Ay (hw:=wo f bd) 31 37 Z f Z λa f=> ?_
        have⟨bk,bl,bb⟩:=bind_some bb
        refine Bs (hw:=wo f bd) 32 37 T29 h2 bl Z f Z Z λbm bn a bo bp f=> ?_
        subst bp
        refine Bq (hw:=wo f bd) 33 37 Pl2 bo Z f Z λa f=>q_p (hw:=wo f bd) 34 37 Z f (λ_=>Bi (f.e Z) (f.e Z) b_geq) λa f=>q_p (hw:=wo f a9) 35 37 Z f (λ_=>AK (f.e Z) bd (f.e Z)) λa f=> ?_
        obtain rfl:=sj bb
        exact bc _ (f.k Z)
       ·refine AF 28 37 Z f bd λa f=> ?_
        refine AF 29 37 Z f bd λa f=>AF 30 37 Z f bd λa f=>AF 31 37 Z f bd λa f=>AF 32 37 Z f bd λa f=>AF 33 37 Z f bd λa f=>AF 34 37 Z f bd λa f=>q_p (hw:=wo f a9) 35 37 Z f (λ_=>AL (f.e Z) bd (f.e Z)) λa f=> ?_
        obtain rfl:=sj bb
        exact bc _ (f.k Z)
   ·intro bq
    rcases Af al with⟨br,al⟩|⟨br,al⟩
    ·refine AF 18 37 Z f br λa f=> ?_
     refine AF 19 37 Z f br λa f=>AF 20 37 Z f br λa f=>AF 21 37 Z f br λa f=>AF 22 37 Z f br λa f=>q_p 23 37 Z f (λ_=>AK (f.e Z) br (f.e Z)) λa f=> ?_
     obtain rfl:=sj al
     exact bq _ (f.k Z)
    ·refine Ay (hw:=wo f br) 18 37 Z f Z λa f=> ?_
     refine Ay (hw:=wo f br) 19 37 Z f Z λa f=> ?_
     have⟨bs,bt,al⟩:=bind_some al
     refine Cv (i:=20) 37 T29 h2 bt Z (by kernel_rfl) Z f (Br f Z Z Z br) Z Z (.inr ⟨_,_,Z,Z⟩) (.inl ⟨Z,Z⟩) λbu a bv f=> ?_
     have⟨bw,bx,al⟩:=bind_some al
     refine BL (i:=21) 37 Z (by kernel_rfl) Z f (Br f Z Z Z br) Z Z call58 (λ_ _ w bz m=>Wk.k0 m (rd1 bz bv) bx) λa f=>q_p (hw:=wo f br) 22 37 Z f (λ_=>Bp (f.e Z)) λa f=>q_p 23 37 Z f (λ_=>AL (f.e Z) br (f.e Z)) λa f=> ?_
     obtain rfl:=sj al
     exact bq _ (f.k Z)
  ·intro bA
   rcases Af aj with⟨bB,aj⟩|⟨bB,aj⟩
   ·refine AF 11 37 Z f bB λa f=> ?_
    refine AF 12 37 Z f bB λa f=>AF 13 37 Z f bB λa f=>AF 14 37 Z f bB λa f=>AF 15 37 Z f bB λa f=>q_p 16 37 Z f (λ_=>AK (f.e Z) bB (f.e Z)) λa f=> ?_
    obtain rfl:=sj aj
    exact bA _ (f.k Z)
   ·refine Ay (hw:=wo f bB) 11 37 Z f Z λa f=> ?_
    refine Ay (hw:=wo f bB) 12 37 Z f Z λa f=> ?_
    have⟨bC,bD,aj⟩:=bind_some aj
    refine Cv (i:=13) 37 T29 h2 bD Z (by kernel_rfl) Z f (Br f Z Z Z bB) Z Z (.inl ⟨Z,Z⟩) (.inr ⟨_,_,Z,Z⟩) λbE a bF f=> ?_
    have⟨bG,bH,aj⟩:=bind_some aj
    refine BL (i:=14) 37 Z (by kernel_rfl) Z f (Br f Z Z Z bB) Z Z call58 (λ_ _ w bI m=>Wk.k0 m (rd1 bI bF) bH) λa f=>q_p (hw:=wo f bB) 15 37 Z f (λ_=>Bp (f.e Z)) λa f=>q_p 16 37 Z f (λ_=>AL (f.e Z) bB (f.e Z)) λa f=> ?_
    obtain rfl:=sj aj
    exact bA _ (f.k Z)
 ·intro bJ
  rcases Bool.eq_false_or_eq_true (ae.1==0) with bK|bK
  ·refine AF 3 37 Z f bK λa f=> ?_
   refine AF 4 37 Z f bK λa f=>AF 5 37 Z f bK λa f=>AF 6 37 Z f bK λa f=>AF 7 37 Z f bK λa f=>AF 8 37 Z f bK λa f=>q_p 9 37 Z f (λ_=>AK (f.e Z) bK (f.e Z)) λa f=> ?_
   exact bJ _ (f.weak ⟨Z,Z,Z,Z,Z,Z,Z,Z,Z,by rw[bK];rfl,trivial⟩)
  ·refine Ay (hw:=wo f bK) 3 37 Z f Z λa f=> ?_
   refine q_len (i:=4) 37 underlying29 h2 Z (by kernel_rfl) Z f (Br f Z Z Z bK) Z Z λa f=>Ay (hw:=wo f bK) 5 37 Z f Z λa f=>Ay (hw:=wo f bK) 6 37 Z f Z λa f=>q_p (hw:=wo f bK) 7 37 Z f (λ_=>Bi (f.e Z) (f.e Z) AD) λa f=>q_p (hw:=wo f bK) 8 37 Z f (λ_=>Bi (f.e Z) (f.e Z) CF) λa f=>q_p 9 37 Z f (λ_=>AL (f.e Z) bK (f.e Z)) λa f=> ?_
   exact bJ _ (f.weak ⟨Z,Z,Z,Z,Z,Z,Z,Z,Z,by rw[bK];rfl,trivial⟩)
theorem Wk.s0 {aa v1 v2:Value}{ab x1:LL}{x2:LI}(m:Mem W G w (H))(ac:R2 G aa ab)(h1:R2 G v1 x1)(h2:R1 G v2 x2){y:Bool}(hd:D.s0 ab x1 x2=some y):
  Calls prog 28 #[(.agg #[aa]),v1,v2] w (Res W G H (λ_ Ho v=>Ho=[]∧v=(.bool y))):=by
 refine Aw (args:=[(.agg #[aa]),v1,v2]) (N:=53) [.tmp 6] func28 Z Z (lb Z) Z λa f=> ?_
 unfold D.s0 at hd
 refine Ae ?_
 refine Bf (cs:=[aa]) m f Z Z Z λad w a m f=>Ac f Z λa f=>Aa (Ag (Ae ?_))
 refine Ac f Z λa f=>Aa ?_
 have⟨ae,af,hd⟩:=bind_some hd
 refine AR (λa w=>∃q_509':Unit,ae= .inl q_509'∧∃(ag:GH),GLe G ag∧Fr a 53 []∧Mem W ag w (H)) ?_ ?_
 ·refine Ap ?_
  refine AQ (λah a w=>∃ai:Int,ai=ah∧∃(aj:GH),GLe G aj∧Fr a 53 [(1,v1),(2,v2),(3,(pb ad)),(7,(iv ai))]∧Mem W aj w (ib ad 26 [aa]::H)) af ⟨_,Z,_,gr,f.k Z,m⟩ ?_
  clear af f m
  rintro ah ak al am a w ⟨ai,rfl,aj,an,f,m⟩
  have h1:=rd2 an h1
  have h2:=rd1 an h2
  have ac:=rd2 an ac
  refine Ag (Ae ?_)
  refine Ab f Z λa f=>Ab f Z λa f=>Bb underlying29 f Z Z h2 λa f=>Ak f Z Z AV λa f=>Aa ?_
  rcases Af al with⟨ao,al⟩|⟨ao,al⟩
  ·refine Al f Z ao ?_
   refine Ao ?_
   refine Ag (Ap (Ae ?_))
   refine Ac f Z λa f=>Aa (Ag (Ae ?_))
   refine Ac f Z λa f=>Aa ?_
   have⟨ap,aq,al⟩:=bind_some al
   refine AR (λa w=>∃ar:Int,ar=ap∧∃(au:GH),GLe aj au∧Fr a 53 [(1,v1),(2,v2),(3,(pb ad)),(7,(iv ai)),(8,(iv ar))]∧Mem W au w (ib ad 26 [aa]::H)) ?_ ?_
   ·refine Ap ?_
    refine AQ (λav a w=>∃aw:Int,∃ax:Int,(aw,ax)=av∧∃(ay:GH),GLe aj ay∧Fr a 53 [(1,v1),(2,v2),(3,(pb ad)),(7,(iv ai)),(8,(iv aw)),(9,(iv ax))]∧Mem W ay w (ib ad 26 [aa]::H)) aq ⟨_,_,Z,_,gr,f.k Z,m⟩ ?_
    clear aq f m
    rintro av az aA aB a w ⟨aw,ax,rfl,ay,aC,f,m⟩
    have h1:=rd2 aC h1
    refine Ag (Ae ?_)
    refine Ab f Z λa f=>Ab f Z λa f=>Bb underlying51 f Z Z h1 λa f=>Ak f Z Z AV λa f=>Aa ?_
    rcases Af aA with⟨aD,aA⟩|⟨aD,aA⟩
    ·refine Al f Z aD ?_
     refine Ao ?_
     refine Ag (Ap (Ae ?_))
     refine Ab f Z λa f=>Ab f Z λa f=> ?_
     have⟨aE,aF,aA⟩:=bind_some aA
     refine Bo T51 f Z Z Z h1 aF λaG aH a aI aJ f=>AN m CU f Z Z aI λa f=> ?_
     have⟨aK,aL,aA⟩:=bind_some aA
     refine Bo T61 f Z Z Z aJ aL λaM aN a aO aP f=> ?_
     subst aP
     refine AN m Pl3 f Z Z aO λa f=>Ab f Z λa f=>Ak f Z Z Bj λa f=>Ab f Z λa f=> ?_
     have⟨aQ,aR,aA⟩:=bind_some aA
     refine Be 9 (λa w=>∃aS,GLe ay aS∧Mem W aS w (ib ad 26 [aa]::H)∧Fr a 53 [(1,v1),(2,v2),(3,(pb ad)),(7,(iv ai)),(8,(iv aw)),(9,(iv ax)),(19,(.bool (decide (ax<(x1.length:Int))))),(22,v1),(23,(iv ax)),(24,aG),(25,aH),(26,aM),(27,(iv aK)),(28,(iv ai)),(29,(.bool (aK==ai))),(30,(.bool (aK==ai))),(39,(.bool aQ))]) ?_ ?_
     ·rcases Af aR with⟨aT,aR⟩|⟨aT,aR⟩
      ·refine As f aT λa f=> ?_
       refine As f aT λa f=>As f aT λa f=>As f aT λa f=>As f aT λa f=>As f aT λa f=>As f aT λa f=>As f aT λa f=>l_o f (AK (f.e Z) aT (f.e Z)) λa f=> ?_
       obtain rfl:=sj aR
       exact⟨_,gr,m,f.k Z⟩
      ·refine Ar f aT ?_
       refine Ab f Z λa f=>Ar f aT ?_
       refine Ab f Z λa f=>Ar f aT ?_
       have⟨aU,aV,aR⟩:=bind_some aR
       refine Bo T51 f Z Z Z h1 aV λaW aX a aY aZ f=>Ar f aT ?_
       refine AN m CU f Z Z aY λa f=>Ar f aT ?_
       have⟨a0,a1,aR⟩:=bind_some aR
       refine Bo T61 f Z Z Z aZ a1 λa2 a3 a a4 a5 f=> ?_
       subst a5
       refine Ar f aT ?_
       refine AN m Pl3 f Z Z a4 λa f=>Ar f aT ?_
       refine Ab f Z λa f=>Ar f aT ?_
       refine Ak f Z Z Bj λa f=>l_o f (AL (f.e Z) aT (f.e Z)) λa f=> ?_
       obtain rfl:=sj aR
       exact⟨_,gr,m,f.k Z⟩
     ·rintro a w ⟨aS,a6,m,f⟩
      refine Aa ?_
      rcases Af aA with⟨a7,aA⟩|⟨a7,aA⟩
      ·refine Al f Z a7 ?_
       refine Aq ?_
       refine Ab f Z λa f=>Ak f Z Z AD λa f=>Ac f Z λa f=>Aa (Aq ?_)
       refine Ab f Z λa f=>Ak f Z Z AD λa f=>Ac f Z λa f=>Aa ?_
       obtain rfl:=sj aA
       exact⟨_,Z,_,_,Z,_,(gt aC a6),f.k Z,m⟩
      ·refine Aj f Z a7 ?_
       refine Ao ?_
       refine Aq ?_
       refine Ab f Z λa f=>Ak f Z Z AD λa f=>Ac f Z λa f=>Aa ?_
       obtain rfl:=sj aA
       exact⟨_,Z,_,_,Z,_,(gt aC a6),f.k Z,m⟩
    ·refine Aj f Z aD ?_
     refine AO Z ?_
     obtain rfl:=sj aA
     obtain rfl:=aB _ rfl
     exact⟨_,Z,_,aC,f.k Z,m⟩
   ·rintro a w ⟨ar,rfl,au,a8,f,m⟩
    have h2:=rd1 a8 h2
    have ac:=rd2 a8 ac
    refine Ag ?_
    refine Bc 11 AW (by kernel_rfl) m ?_
    refine BB 0 11 underlying26 Z sizeOf24 Z f Z λa f=>Bd 1 11 0 Bk Z Z Z f Z λa f=>Ay 2 11 Z f Z λa f=>Ay 3 11 Z f Z λa f=> ?_
    have⟨a9,ba,al⟩:=bind_some al
    refine Bs 4 11 T29 h2 ba Z f Z Z λbb bc a bd be f=> ?_
    subst be
    refine Bq 5 11 Pl2 bd Z f Z λa f=> ?_
    have⟨bf,bg,al⟩:=bind_some al
    refine Bs 6 11 T24 ac bg Z f Z Z λbh bi a bj bk f=>Bq 7 11 By bj Z f Z λa f=>q_len (i:=8) 11 underlying29 bk Z (by kernel_rfl) Z f Z Z Z λa f=>Ay 9 11 Z f Z λa f=>q_p 10 11 Z f (λ_=>Bi (f.e Z) (f.e Z) AV) λa f=>A1 λbl w bm m=>Aa ?_
    rcases Af al with⟨bn,al⟩|⟨bn,al⟩
    ·refine Al f Z bn ?_
     refine Ae ?_
     refine Ac f Z λa f=>Aa ?_
     refine Am ?_
     have m:Mem W bl w H:=Mem.drop (H':=[ib ad 26 [aa]]) m
     obtain rfl:=sj al
     obtain rfl:=am _ rfl
     obtain rfl:=sj hd
     exact⟨[(.bool false)],f.g Z,f.d,_,[],(gt an (gt a8 bm)),m,Z,Z⟩
    ·refine Aj f Z bn ?_
     refine Ao ?_
     refine Aq ?_
     refine Ab f Z λa f=>Ak f Z Z AD λa f=>Ac f Z λa f=>Aa ?_
     obtain rfl:=sj al
     exact⟨_,Z,_,Z,_,(gt an (gt a8 bm)),f.k Z,m⟩
  ·refine Aj f Z ao ?_
   refine AO Z ?_
   have m:Mem W aj w H:=Mem.drop (H':=[ib ad 26 [aa]]) m
   obtain rfl:=sj al
   obtain rfl:=am _ rfl
   exact⟨_,Z,_,an,f.weak trivial,m⟩
 ·rintro a w ⟨_,rfl,ag,bo,f,m⟩
  refine Ae ?_
  refine Ac f Z λa f=>Aa ?_
  refine Am ?_
  obtain rfl:=sj hd
  exact⟨[(.bool true)],f.g Z,f.d,_,[],bo,m,Z,Z⟩
theorem Wk.S {W:World}(n:Nat):∀{w:World} {G:GH} {H:List Itm} {aa v1 v4:Value} {ab:LL} {x1:LI} {x2 x3:Int} {x4:LI} (m:Mem W G w (H)) (ac:R2 G aa ab) (h1:R1 G v1 x1) (h4:R1 G v4 x4) {y:(LL)} (hd:D.S n ab x1 x2 x3 x4=some y),
  Calls prog 60 #[(.agg #[aa]),v1,(iv x2),(iv x3),v4] w (Res W G H (λG' Ho v=>∃r0:Value,∃i0:Itm,Ho=[i0]∧r0=v∧Ow R1 29 G' i0 r0 y)):=by
 induction n with
 |zero=>intros;rename_i hd;simp[D.S] at hd
 |succ fuel ih=>
  intro w G H aa v1 v4 ab x1 x2 x3 x4 m ac h1 h4 y hd
  refine Aw (args:=[(.agg #[aa]),v1,(iv x2),(iv x3),v4]) (N:=87) [.tmp 10] func60 Z Z (lb Z) Z λa f=> ?_
  unfold D.S at hd
  refine Ae ?_
  refine Bf (cs:=[aa]) m f Z Z Z λad w a m f=>Ac f Z λa f=>AG ?_
  refine AU (R:=R1) (xs:=([]:LL)) (RSl.one _) m T24 f Z Z Z (by decide) (All2.nil _) λae af w a m ag f=>Ac f Z λa f=>AG ?_
  refine Ab f Z λa f=>Ab f Z λa f=>Bb underlying29 f Z Z h1 λa f=>Ak f Z Z BO λa f=> ?_
  have⟨ah,ai,hd⟩:=bind_some hd
  refine Bo T29 f Z Z Z h1 ai λaj ak a al am f=> ?_
  subst am
  refine AN m Pl2 f Z Z al λa f=>Ac f Z λa f=>Aa (Ag (Ae ?_))
  refine Ab f Z λa f=>Ak f Z Z Bj λa f=>Aa ?_
  rcases Af hd with⟨an,hd⟩|⟨an,hd⟩
  ·refine Al f Z an ?_
   refine Ag (Ae ?_)
   refine Bh underlying26 Z sizeOf24 f Z λa f=>AE 1 0 m Bk f Z Z Z Z λa f=>Ab f Z λa f=> ?_
   have⟨ao,ap,hd⟩:=bind_some hd
   refine Bo T24 f Z Z Z ac ap λaq ar a au av f=>AN m By f Z Z au λa f=>Ab f Z λa f=> ?_
   have⟨aw,ax,hd⟩:=bind_some hd
   refine A4 f Z call32 (Wk.g m av ax) λay w az m a f=> ?_
   have h1:=rd1 az h1
   have ag:=Ow.mono (RSl.mono (RI.mono _)) az ag
   refine Aa ?_
   have⟨aA,aB,hd⟩:=bind_some hd
   refine AR (λa w=>∃aC:LL,aC=aA∧∃(aD:GH) (aE:Value) (aF:Itm),GLe ay aD∧Fr a 87 [(11,aE)]∧Mem W aD w (aF::H)∧Ow R1 29 aD aF aE aC) ?_ ?_
   ·rcases Af aB with⟨aG,aB⟩|⟨aG,aB⟩
    ·refine Al f Z aG ?_
     refine Aq ?_
     refine Ab f Z λa f=>Ab f Z λa f=> ?_
     have⟨aH,aI,aB⟩:=bind_some aB
     refine Az f Z call30 (Wk.c m h1 aI) λaJ aK aL w aM m aN a f=> ?_
     obtain⟨aO,aP,rfl,rfl,aQ⟩:=aN
     have ag:=Ow.mono (RSl.mono (RI.mono _)) aM ag
     refine Ab f Z λa f=>AU (R:=R0) (xs:=([x2]:LI)) (RI.one _) m T29 f Z Z Z (by decide) (All2.cons Z (All2.nil _)) λaR aS w a m aT f=> ?_
     have⟨aU,aV,aB⟩:=bind_some aB
     refine AX (RI.one _) 1 m aQ Z T29 Z (by decide) f Z Z Z (Ow.src (j:=0) aT m Z) aV λaW aX w a m aY f=> ?_
     have m:=m.fr 1
     obtain⟨aZ,a0,m,a1⟩:=Ow.stamp (RI.mono _) aY m
     have ag:=Ow.mono (RSl.mono (RI.mono _)) a0 ag
     refine AU (R:=R1) (xs:=([aU]:LL)) (RSl.one _) m T24 f Z Z Z (by decide) (All2.cons a1 (All2.nil _)) λa2 a3 w a m a4 f=> ?_
     have⟨a5,a6,aB⟩:=bind_some aB
     refine AX (RSl.one _) 2 m ag Z T24 Z (by decide) f Z Z Z (Ow.src (j:=0) a4 m Z) a6 λa7 a8 w a m a9 f=>Ac f Z λa f=>Aa ?_
     have m:=m.fr 2
     have m:=m.eraseAt 3
     have m:Mem W aZ w (a7::a2::H):=m.eraseAt 2
     have m:=m.eraseAt 1
     obtain rfl:=sj aB
     exact⟨_,Z,_,a8,a7,(gt aM a0),f.k Z,m,a9⟩
    ·refine Aj f Z aG ?_
     refine Ao ?_
     have m:=m.eraseAt 1
     obtain rfl:=sj aB
     exact⟨_,Z,_,af,ae,gr,f.k Z,m,ag⟩
   ·rintro a w ⟨aC,rfl,aD,aE,aF,ba,f,m,bb⟩
    refine Ae ?_
    refine Ab f Z λa f=>Ac f Z λa f=>Aa ?_
    refine Am ?_
    obtain rfl:=sj hd
    exact⟨[aE],f.g Z,f.d,_,[aF],(gt az ba),m,_,_,Z,Z,bb⟩
  ·refine Aj f Z an ?_
   refine Ao ?_
   refine Ag (Ae ?_)
   refine Ac f Z λa f=>Aa ?_
   have⟨bc,bd,hd⟩:=bind_some hd
   refine AR (λa w=>∃be:LL,be=bc∧∃(bf:GH) (bg:Value) (bh:Itm),GLe G bf∧Fr a 87 [(11,bg)]∧Mem W bf w (bh::H)∧Ow R1 29 bf bh bg be) ?_ ?_
   ·refine Ap ?_
    have m:=m.fr 1
    refine AQ (λbi a w=>∃bj:LL,∃bk:Int,(bj,bk)=bi∧∃(bl:GH) (bm:Value) (bn:Itm),GLe G bl∧Fr a 87 [(1,v1),(2,(iv x2)),(3,(iv x3)),(4,v4),(5,(pb ad)),(11,bm),(12,(iv ah)),(13,(iv bk))]∧Mem W bl w (ib ad 26 [aa]::bn::H)∧Ow R1 29 bl bn bm bj) bd ⟨_,_,Z,_,af,ae,gr,f.k Z,m,ag⟩ ?_
    clear bd f m
    rintro bi bo bp bq a w ⟨bj,bk,rfl,bl,bm,bn,br,f,m,bs⟩
    have h1:=rd1 br h1
    have h4:=rd1 br h4
    have ac:=rd2 br ac
    refine Ag (Ae ?_)
    refine Ab f Z λa f=>Bh underlying26 Z sizeOf24 f Z λa f=>AE 0 0 m Bk f Z Z Z Z λa f=>Ab f Z λa f=> ?_
    have⟨bt,bu,bp⟩:=bind_some bp
    refine Bo T24 f Z Z Z ac bu λbv bw a bx bz f=>AN m By f Z Z bx λa f=>Bb underlying29 f Z Z bz λa f=>Ak f Z Z AV λa f=>Aa ?_
    rcases Af bp with⟨bA,bp⟩|⟨bA,bp⟩
    ·refine Al f Z bA ?_
     refine Ao ?_
     refine Ag (Ap (Ae ?_))
     refine Bh underlying26 Z sizeOf24 f Z λa f=>AE 0 0 m Bk f Z Z Z Z λa f=>Ab f Z λa f=> ?_
     have⟨bB,bC,bp⟩:=bind_some bp
     refine Bo T24 f Z Z Z ac bC λbD bE a bF bG f=>AN m By f Z Z bF λa f=>Ab f Z λa f=> ?_
     have⟨bH,bI,bp⟩:=bind_some bp
     refine Bo T29 f Z Z Z bG bI λbJ bK a bL bM f=> ?_
     subst bM
     refine AN m Pl2 f Z Z bL λa f=>Ac f Z λa f=>AG ?_
     refine Ab f Z λa f=>Ab f Z λa f=>Ak f Z Z CF λa f=>Ab f Z λa f=> ?_
     have⟨bN,bO,bp⟩:=bind_some bp
     refine Be 5 (λa w=>∃bP,GLe bl bP∧Mem W bP w (ib ad 26 [aa]::bn::H)∧Fr a 87 [(1,v1),(2,(iv x2)),(3,(iv x3)),(4,v4),(5,(pb ad)),(11,bm),(12,(iv ah)),(13,(iv bk)),(14,(iv bH)),(58,(iv bH)),(59,(iv x2)),(60,(.bool (bH !=x2))),(61,(.bool (bH !=x2))),(66,(.bool bN))]) ?_ ?_
     ·rcases Af bO with⟨bQ,bO⟩|⟨bQ,bO⟩
      ·refine Ar f bQ ?_
       refine Ab f Z λa f=>Ar f bQ ?_
       refine Ab f Z λa f=>Ar f bQ ?_
       have⟨bR,bS,bO⟩:=bind_some bO
       refine A4 f Z call32 (Wk.g m h4 bS) λbT w bU m a f=>Ar f bQ ?_
       refine l_o f (Bp (f.e Z)) λa f=>l_o f (AK (f.e Z) bQ (f.e Z)) λa f=> ?_
       obtain rfl:=sj bO
       exact⟨_,bU,m,f.k Z⟩
      ·refine As f bQ λa f=> ?_
       refine As f bQ λa f=>As f bQ λa f=>As f bQ λa f=>l_o f (AL (f.e Z) bQ (f.e Z)) λa f=> ?_
       obtain rfl:=sj bO
       exact⟨_,gr,m,f.k Z⟩
     ·rintro a w ⟨bP,bV,m,f⟩
      have h1:=rd1 bV h1
      have h4:=rd1 bV h4
      have ac:=rd2 bV ac
      have bs:=Ow.mono (RSl.mono (RI.mono _)) bV bs
      refine Ab f Z λa f=> ?_
      have⟨bW,bX,bp⟩:=bind_some bp
      refine Be 5 (λa w=>∃bY,GLe bP bY∧Mem W bY w (ib ad 26 [aa]::bn::H)∧Fr a 87 [(1,v1),(2,(iv x2)),(3,(iv x3)),(4,v4),(5,(pb ad)),(11,bm),(12,(iv ah)),(13,(iv bk)),(14,(iv bH)),(58,(iv bH)),(59,(iv x2)),(60,(.bool (bH !=x2))),(61,(.bool (bH !=x2))),(66,(.bool bN)),(67,(.bool bN)),(72,(.bool bW))]) ?_ ?_
      ·rcases Af bX with⟨bZ,bX⟩|⟨bZ,bX⟩
       ·refine Ar f bZ ?_
        refine Ab f Z λa f=>Ar f bZ ?_
        refine Ab f Z λa f=>Ar f bZ ?_
        have⟨b0,b1,bX⟩:=bind_some bX
        refine A4 f Z call32 (Wk.g m h1 b1) λb2 w b3 m a f=>Ar f bZ ?_
        refine l_o f (Bp (f.e Z)) λa f=>l_o f (AK (f.e Z) bZ (f.e Z)) λa f=> ?_
        obtain rfl:=sj bX
        exact⟨_,b3,m,f.k Z⟩
       ·refine As f bZ λa f=> ?_
        refine As f bZ λa f=>As f bZ λa f=>As f bZ λa f=>l_o f (AL (f.e Z) bZ (f.e Z)) λa f=> ?_
        obtain rfl:=sj bX
        exact⟨_,gr,m,f.k Z⟩
      ·rintro a w ⟨bY,b4,m,f⟩
       have h1:=rd1 b4 h1
       have h4:=rd1 b4 h4
       have ac:=rd2 b4 ac
       have bs:=Ow.mono (RSl.mono (RI.mono _)) b4 bs
       refine Aa ?_
       rcases Af bp with⟨b5,bp⟩|⟨b5,bp⟩
       ·refine Al f Z b5 ?_
        have⟨b6,b7,bp⟩:=bind_some bp
        refine AR (λa w=>∃b8:LL,b8=b6∧∃(b9:GH) (ca:Value) (cb:Itm),GLe bY b9∧Fr a 87 [(1,v1),(2,(iv x2)),(3,(iv x3)),(4,v4),(5,(pb ad)),(11,ca),(12,(iv ah)),(13,(iv bk))]∧Mem W b9 w (ib ad 26 [aa]::cb::H)∧Ow R1 29 b9 cb ca b8) ?_ ?_
        ·refine Bc 12 AW (by kernel_rfl) m ?_
         refine Ay 0 12 Z f Z λa f=>BC (i:=1) (ds:=[aa]) 12 0 AA Z Z Z Z (by kernel_rfl) Z f Z Z Z λa f=>Ay 2 12 Z f Z λa f=>Ay 4 12 Z f Z λa f=>Ay 7 12 Z f Z λa f=>Ay 8 12 Z f Z λa f=>q_p 9 12 Z f (λ_=>Bi (f.e Z) (f.e Z) BO) λa f=>Ay 10 12 Z f Z λa f=>Cf (i:=3) (j:=5) (l1:= #[true,true,true,true,true,false,false,true,true,true,true,false,false,false]) (l2:= #[true,true,true,false,true,true,false,true,true,true,true,false,false,false]) Z Z (by kernel_rfl) Z Z ?_ ?_
         ·intro cc w cd m ce ce
          have h1:=rd1 cd h1
          have h4:=rd1 cd h4
          have ac:=rd2 cd ac
          have bs:=Ow.mono (RSl.mono (RI.mono _)) cd bs
          have⟨cf,cg,b7⟩:=bind_some b7
          refine Az f Z call30 (Wk.c m h1 cg) λch ci cj w ck m cl a f=> ?_
          obtain⟨cm,cn,rfl,rfl,co⟩:=cl
          have h4:=rd1 ck h4
          have ac:=rd2 ck ac
          have bs:=Ow.mono (RSl.mono (RI.mono _)) ck bs
          refine Aa ?_
          refine ce ci [cn] _ _ ck m ?_
          refine A3 5 Z λcp w cq m cr cr=> ?_
          have h4:=rd1 cq h4
          have ac:=rd2 cq ac
          have co:=od1 cq co
          have bs:=Ow.mono (RSl.mono (RI.mono _)) cq bs
          refine AU (R:=R0) (xs:=([bH]:LI)) (RI.one _) m T29 f Z Z Z (by decide) (All2.cons Z (All2.nil _)) λct cu w a m cv f=>Aa ?_
          refine cr cp [ct,cn] _ _ gr m ?_
          refine A3 6 Z λcw w cx m cy cy=> ?_
          have h4:=rd1 cx h4
          have ac:=rd2 cx ac
          have cv:=od1 cx cv
          have co:=od1 cx co
          have bs:=Ow.mono (RSl.mono (RI.mono _)) cx bs
          have⟨cz,cA,b7⟩:=bind_some b7
          refine AX (RI.one _) 1 m co Z T29 Z (by decide) f Z Z Z (Ow.src (j:=0) cv m Z) cA λcB cC w a m cD f=>Aa ?_
          refine cy cw [ct,cB] _ _ gr m ?_
          refine A3 11 Z λcE w cF m cG cG=> ?_
          have h4:=rd1 cF h4
          have ac:=rd2 cF ac
          have cD:=od1 cF cD
          have bs:=Ow.mono (RSl.mono (RI.mono _)) cF bs
          have m:=m.fr 1
          obtain⟨cH,cI,m,cJ⟩:=Ow.stamp (RI.mono _) cD m
          have h4:=rd1 cI h4
          have ac:=rd2 cI ac
          have bs:=Ow.mono (RSl.mono (RI.mono _)) cI bs
          have⟨cK,cL,b7⟩:=bind_some b7
          refine Az f Z call60 (ih m ac cJ h4 cL) λcM cN cO w cP m cQ a f=> ?_
          obtain⟨cR,cS,rfl,rfl,cT⟩:=cQ
          have bs:=Ow.mono (RSl.mono (RI.mono _)) cP bs
          refine Aa ?_
          refine cG cN [cS,ct] _ _ (gt cI cP) m ?_
          refine A1 λcU w cV m=> ?_
          have cT:=Ow.mono (RSl.mono (RI.mono _)) cV cT
          have bs:=Ow.mono (RSl.mono (RI.mono _)) cV bs
          have⟨cW,cX,b7⟩:=bind_some b7
          refine AX (RSl.one _) 3 m bs Z T24 Z (by decide) f Z Z Z (Ow.src (j:=0) cT m Z) cX λcY cZ w a m c0 f=>Ac f Z λa f=>Aa ?_
          have m:=m.fr 3
          have m:=m.fr 3
          have m:Mem W cU w (ib ad 26 [aa]::cY::cS::H):=m.eraseAt 3
          have m:=m.eraseAt 2
          obtain rfl:=sj b7
          exact⟨_,Z,_,cZ,cY,(gt cd (gt ck (gt cq (gt cx (gt cF (gt cI (gt cP cV))))))),f.k Z,m,c0⟩
         ·intro cp w cq m cr cr
          have⟨cf,cg,b7⟩:=bind_some b7
          have⟨cz,cA,b7⟩:=bind_some b7
          have⟨cK,cL,b7⟩:=bind_some b7
          have⟨cW,cX,b7⟩:=bind_some b7
          have h1:=rd1 cq h1
          have h4:=rd1 cq h4
          have ac:=rd2 cq ac
          have bs:=Ow.mono (RSl.mono (RI.mono _)) cq bs
          refine AU (R:=R0) (xs:=([bH]:LI)) (RI.one _) m T29 f Z Z Z (by decide) (All2.cons Z (All2.nil _)) λct cu w a m cv f=>Aa ?_
          refine cr cp [ct] _ _ gr m ?_
          refine A3 3 Z λcc w cd m ce ce=> ?_
          have h1:=rd1 cd h1
          have h4:=rd1 cd h4
          have ac:=rd2 cd ac
          have cv:=od1 cd cv
          have bs:=Ow.mono (RSl.mono (RI.mono _)) cd bs
          refine Az f Z call30 (Wk.c m h1 cg) λch ci cj w ck m cl a f=> ?_
          obtain⟨cm,cn,rfl,rfl,co⟩:=cl
          have h4:=rd1 ck h4
          have ac:=rd2 ck ac
          have cv:=od1 ck cv
          have bs:=Ow.mono (RSl.mono (RI.mono _)) ck bs
          refine Aa ?_
          refine ce ci [cn,ct] _ _ ck m ?_
          refine A3 6 Z λcw w cx m cy cy=> ?_
          have h4:=rd1 cx h4
          have ac:=rd2 cx ac
          have co:=od1 cx co
          have cv:=od1 cx cv
          have bs:=Ow.mono (RSl.mono (RI.mono _)) cx bs
          refine AX (RI.one _) 0 m co Z T29 Z (by decide) f Z Z Z (Ow.src (j:=1) cv m Z) cA λcB cC w a m cD f=>Aa ?_
          refine cy cw [cB,ct] _ _ gr m ?_
          refine A3 11 Z λcE w cF m cG cG=> ?_
          have h4:=rd1 cF h4
          have ac:=rd2 cF ac
          have cD:=od1 cF cD
          have bs:=Ow.mono (RSl.mono (RI.mono _)) cF bs
          obtain⟨cH,cI,m,cJ⟩:=Ow.stamp (RI.mono _) cD m
          have h4:=rd1 cI h4
          have ac:=rd2 cI ac
          have bs:=Ow.mono (RSl.mono (RI.mono _)) cI bs
          refine Az f Z call60 (ih m ac cJ h4 cL) λcM cN cO w cP m cQ a f=> ?_
          obtain⟨cR,cS,rfl,rfl,cT⟩:=cQ
          have bs:=Ow.mono (RSl.mono (RI.mono _)) cP bs
          refine Aa ?_
          refine cG cN [cS,ct] _ _ (gt cI cP) m ?_
          refine A1 λcU w cV m=> ?_
          have cT:=Ow.mono (RSl.mono (RI.mono _)) cV cT
          have bs:=Ow.mono (RSl.mono (RI.mono _)) cV bs
          refine AX (RSl.one _) 3 m bs Z T24 Z (by decide) f Z Z Z (Ow.src (j:=0) cT m Z) cX λcY cZ w a m c0 f=>Ac f Z λa f=>Aa ?_
          have m:=m.fr 3
          have m:=m.fr 3
          have m:Mem W cU w (ib ad 26 [aa]::cY::cS::H):=m.eraseAt 3
          have m:=m.eraseAt 2
          obtain rfl:=sj b7
          exact⟨_,Z,_,cZ,cY,(gt cq (gt cd (gt ck (gt cx (gt cF (gt cI (gt cP cV))))))),f.k Z,m,c0⟩
        ·rintro a w ⟨b8,rfl,b9,ca,cb,c1,f,m,c2⟩
         refine Aq ?_
         refine Ab f Z λa f=>Ak f Z Z AD λa f=>Ac f Z λa f=>Aa ?_
         obtain rfl:=sj bp
         exact⟨_,Z,_,_,Z,_,ca,cb,(gt br (gt bV (gt b4 c1))),f.k Z,m,c2⟩
       ·refine Aj f Z b5 ?_
        refine Ao ?_
        refine Aq ?_
        refine Ab f Z λa f=>Ak f Z Z AD λa f=>Ac f Z λa f=>Aa ?_
        obtain rfl:=sj bp
        exact⟨_,Z,_,_,Z,_,bm,bn,(gt br (gt bV b4)),f.k Z,m,bs⟩
    ·refine Aj f Z bA ?_
     refine AO Z ?_
     have m:=m.fr 1
     have m:=m.eraseAt 1
     obtain rfl:=sj bp
     obtain rfl:=bq _ rfl
     exact⟨_,Z,_,bm,bn,br,f.k Z,m,bs⟩
   ·rintro a w ⟨be,rfl,bf,bg,bh,c3,f,m,c4⟩
    refine Ae ?_
    refine Ab f Z λa f=>Ac f Z λa f=>Aa ?_
    refine Am ?_
    obtain rfl:=sj hd
    exact⟨[bg],f.g Z,f.d,_,[bh],c3,m,_,_,Z,Z,c4⟩
theorem Wk.x {aa v1 v4:Value}{ab:LL}{x1:LI}{x2 x3:Int}{x4:LI}(m:Mem W G w (H))(ac:R2 G aa ab)(h1:R1 G v1 x1)(h4:R1 G v4 x4){y:(LL)}(hd:D.x ab x1 x2 x3 x4=some y):
  Calls prog 60 #[(.agg #[aa]),v1,(iv x2),(iv x3),v4] w (Res W G H (λG' Ho v=>∃r0:Value,∃i0:Itm,Ho=[i0]∧r0=v∧Ow R1 29 G' i0 r0 y)):=by
 exact Wk.S BA m ac h1 h4 hd
theorem Wk.N {W:World}(n:Nat):∀{w:World} {G:GH} {H:List Itm} {aa v1 v2 v3:Value} {ab:LL} {x1:LI} {x2:LL} {x3:LI} (m:Mem W G w (H)) (ac:R2 G aa ab) (h1:R1 G v1 x1) (h2:R2 G v2 x2) (h3:R1 G v3 x3) {y:(LL)×Bool} (hd:D.N n ab x1 x2 x3=some y),
  Calls prog 29 #[(.agg #[aa]),v1,v2,v3] w (Res W G H (λG' Ho v=>∃r0:Value,∃i0:Itm,Ho=[i0]∧v= .tuple #[r0,(.bool y.2)]∧Ow R1 29 G' i0 r0 y.1)):=by
 induction n with
 |zero=>intros;rename_i hd;simp[D.N] at hd
 |succ fuel ih=>
  intro w G H aa v1 v2 v3 ab x1 x2 x3 m ac h1 h2 h3 y hd
  refine Aw (args:=[(.agg #[aa]),v1,v2,v3]) (N:=88) [.tmp 8,.tmp 9] func29 Z Z (lb Z) Z λa f=> ?_
  unfold D.N at hd
  refine Ae ?_
  refine Bf (cs:=[aa]) m f Z Z Z λad w a m f=>Ac f Z λa f=>Ac f Z λa f=>Aa (Ag (Ae ?_))
  refine Ab f Z λa f=>Bb underlying51 f Z Z h2 λa f=>Ak f Z Z Bj λa f=>Aa ?_
  rcases Af hd with⟨ae,hd⟩|⟨ae,hd⟩
  ·refine Al f Z ae ?_
   refine Ae ?_
   refine AU (R:=R1) (xs:=([]:LL)) (RSl.one _) m T24 f Z Z Z (by decide) (All2.nil _) λaf ag w a m ah f=>Ac f Z λa f=>Ac f Z λa f=>Aa ?_
   refine Am ?_
   have m:=m.eraseAt 1
   obtain rfl:=sj hd
   exact⟨[ag,(.bool true)],⟨f.get _ _ Z,f.get _ _ Z,trivial⟩,f.d,_,[af],gr,m,_,_,Z,Z,ah⟩
  ·refine Aj f Z ae ?_
   refine Ao ?_
   refine Ae ?_
   refine Ab f Z λa f=>Ab f Z λa f=> ?_
   have⟨ai,aj,hd⟩:=bind_some hd
   refine Bo T51 f Z Z Z h2 aj λak al a am an f=>AN m CU f Z Z am λa f=> ?_
   have⟨ao,ap,hd⟩:=bind_some hd
   refine Bo T61 f Z Z Z an ap λaq ar a au av f=> ?_
   subst av
   refine AN m Pl3 f Z Z au λa f=> ?_
   have⟨aw,ax,hd⟩:=bind_some hd
   refine Bo T29 f Z Z Z h1 ax λay az a aA aB f=> ?_
   subst aB
   refine AN m Pl2 f Z Z aA λa f=>Ac f Z λa f=>AG ?_
   refine Ab f Z λa f=>Ab f Z λa f=> ?_
   have⟨aC,aD,hd⟩:=bind_some hd
   refine Bo T51 f Z Z Z h2 aD λaE aF a aG aH f=>AN m CU f Z Z aG λa f=> ?_
   have⟨aI,aJ,hd⟩:=bind_some hd
   refine Bo T61 f Z Z Z aH aJ λaK aL a aM aN f=> ?_
   subst aN
   refine AN m Pl3 f Z Z aM λa f=> ?_
   have⟨aO,aP,hd⟩:=bind_some hd
   refine Bo T29 f Z Z Z h1 aP λaQ aR a aS aT f=> ?_
   subst aT
   refine AN m Pl2 f Z Z aS λa f=>Ac f Z λa f=>Aa (Ag (Ae ?_))
   refine Ac f Z λa f=>Aa ?_
   have⟨aU,aV,hd⟩:=bind_some hd
   refine AR (λa w=>∃q_654':Unit,aU= .inl q_654'∧∃(aW:GH),GLe G aW∧Fr a 88 []∧Mem W aW w (H)) ?_ ?_
   ·refine Ap ?_
    refine AQ (λaX a w=>∃aY:Int,aY=aX∧∃(aZ:GH),GLe G aZ∧Fr a 88 [(1,v1),(2,v2),(3,v3),(4,(pb ad)),(10,(iv aw)),(11,(iv aO)),(12,(iv aY))]∧Mem W aZ w (ib ad 26 [aa]::H)) aV ⟨_,Z,_,gr,f.k Z,m⟩ ?_
    clear aV f m
    rintro aX a0 a1 a2 a w ⟨aY,rfl,aZ,a3,f,m⟩
    have h1:=rd1 a3 h1
    have h2:=rd2 a3 h2
    have h3:=rd1 a3 h3
    have ac:=rd2 a3 ac
    refine Ag (Ae ?_)
    refine Ab f Z λa f=>Bh underlying26 Z sizeOf24 f Z λa f=>AE 0 0 m Bk f Z Z Z Z λa f=>Bb underlying24 f Z Z ac λa f=>Ab f Z λa f=>Bb underlying29 f Z Z h3 λa f=>Ak f Z Z BO λa f=>Ak f Z Z AD λa f=>Ak f Z Z Ch λa f=>Aa ?_
    rcases Af a1 with⟨a4,a1⟩|⟨a4,a1⟩
    ·refine Al f Z a4 ?_
     refine Ao ?_
     refine Ag (Ap (Ae ?_))
     refine Au 0 0 (ds:=[aa]) m AA f Z Z Z Z Z λa f=>Ab f Z λa f=>AU (R:=R0) (xs:=([aw]:LI)) (RI.one _) m T29 f Z Z Z (by decide) (All2.cons Z (All2.nil _)) λa5 a6 w a m a7 f=>Ab f Z λa f=>Ab f Z λa f=>Ab f Z λa f=> ?_
     obtain⟨a8,a9,m,ba⟩:=Ow.stamp (RI.mono _) a7 m
     have h1:=rd1 a9 h1
     have h2:=rd2 a9 h2
     have h3:=rd1 a9 h3
     have ac:=rd2 a9 ac
     have⟨bb,bc,a1⟩:=bind_some a1
     refine Az f Z call60 (Wk.x m ac ba h3 bc) λbd be bf w bg m bh a f=> ?_
     obtain⟨bi,bj,rfl,rfl,bk⟩:=bh
     have h1:=rd1 bg h1
     have h2:=rd2 bg h2
     have h3:=rd1 bg h3
     have ac:=rd2 bg ac
     refine Ac f Z λa f=>AG ?_
     refine Ac f Z λa f=>Aa ?_
     have⟨bl,bm,a1⟩:=bind_some a1
     refine AR (λa w=>∃q_1126':Unit,bl= .inl q_1126'∧∃(bn:GH),GLe be bn∧Fr a 88 [(1,v1),(2,v2),(3,v3),(4,(pb ad)),(10,(iv aw)),(11,(iv aO)),(12,(iv aY))]∧Mem W bn w (ib ad 26 [aa]::H)) ?_ ?_
     ·refine Ap ?_
      have m:=m.fr 1
      refine AQ (λbo a w=>∃bp:Int,bp=bo∧∃(bq:GH),GLe be bq∧Fr a 88 [(1,v1),(2,v2),(3,v3),(4,(pb ad)),(10,(iv aw)),(11,(iv aO)),(12,(iv aY)),(13,bi),(14,(iv bp))]∧Mem W bq w (ib ad 26 [aa]::bj::H)) bm ⟨_,Z,_,gr,f.k Z,m⟩ ?_
      clear bm f m
      rintro bo br bs bt a w ⟨bp,rfl,bq,bu,f,m⟩
      have h1:=rd1 bu h1
      have h2:=rd2 bu h2
      have h3:=rd1 bu h3
      have ac:=rd2 bu ac
      have bk:=Ow.mono (RSl.mono (RI.mono _)) bu bk
      refine Ag (Ae ?_)
      refine Ab f Z λa f=>Ab f Z λa f=>Bw 1 m bk Z underlying24 f Z Z λa f=>Ak f Z Z AV λa f=>Aa ?_
      rcases Af bs with⟨bv,bs⟩|⟨bv,bs⟩
      ·refine Al f Z bv ?_
       refine Ao ?_
       refine Ag (Ap (Ae ?_))
       refine Ab f Z λa f=>Ab f Z λa f=> ?_
       have⟨bw,bx,bs⟩:=bind_some bs
       refine BH 1 m bk Z T24 f Z Z Z bx λbz a bA f=>BF 1 m bk Z By f Z Z bA bx λbB a bC f=>Ac f Z λa f=>Aa (Ag ?_)
       refine Bc 17 AW (by kernel_rfl) m ?_
       refine BC (i:=0) (ds:=[aa]) 17 0 AA Z Z Z Z (by kernel_rfl) Z f Z Z Z λa f=>Ay 1 17 Z f Z λa f=>Ay 2 17 Z f Z λa f=> ?_
       have⟨bD,bE,bs⟩:=bind_some bs
       refine Cv (i:=3) 17 T51 h2 bE Z (by kernel_rfl) Z f Z Z Z (.inr ⟨_,_,Z,Z⟩) (.inl ⟨Z,Z⟩) λbF a bG f=>Ay 4 17 Z f Z λa f=>Ay 6 17 Z f Z λa f=>Ay 7 17 Z f Z λa f=>q_len (i:=8) 17 underlying29 bC Z (by kernel_rfl) Z f Z Z Z λa f=>q_p 9 17 Z f (λ_=>Bi (f.e Z) (f.e Z) BO) λa f=> ?_
       have⟨bH,bI,bs⟩:=bind_some bs
       refine Cv (i:=10) 17 T29 bC bI Z (by kernel_rfl) Z f Z Z Z (.inr ⟨_,_,Z,Z⟩) (.inr ⟨_,_,Z,Z⟩) λbJ a bK f=>A3 5 Z λbL w bM m bN bN=> ?_
       have h1:=rd1 bM h1
       have h3:=rd1 bM h3
       have bC:=rd1 bM bC
       have ac:=rd2 bM ac
       have bG:=rd2 bM bG
       have bK:=rd1 bM bK
       have⟨bO,bP,bs⟩:=bind_some bs
       refine Az f Z call30 (Wk.c m h3 bP) λbQ bR bS w bT m bU a f=> ?_
       obtain⟨bV,bW,rfl,rfl,bX⟩:=bU
       have h1:=rd1 bT h1
       have bC:=rd1 bT bC
       have ac:=rd2 bT ac
       have bG:=rd2 bT bG
       have bK:=rd1 bT bK
       refine Aa ?_
       refine bN bR [bW] _ _ bT m ?_
       refine A3 11 Z λbY w bZ m b0 b0=> ?_
       have h1:=rd1 bZ h1
       have bC:=rd1 bZ bC
       have ac:=rd2 bZ ac
       have bG:=rd2 bZ bG
       have bK:=rd1 bZ bK
       have bX:=od1 bZ bX
       have⟨b1,b2,bs⟩:=bind_some bs
       refine AX (RI.one _) 0 m bX Z T29 Z (by decide) f Z Z Z (bK.src m) b2 λb3 b4 w a m b5 f=>Aa ?_
       refine b0 bY [b3] _ _ gr m ?_
       refine A3 12 Z λb6 w b7 m b8 b8=> ?_
       have h1:=rd1 b7 h1
       have bC:=rd1 b7 bC
       have ac:=rd2 b7 ac
       have bG:=rd2 b7 bG
       have b5:=od1 b7 b5
       obtain⟨b9,ca,m,cb⟩:=Ow.stamp (RI.mono _) b5 m
       have h1:=rd1 ca h1
       have bC:=rd1 ca bC
       have ac:=rd2 ca ac
       have bG:=rd2 ca bG
       have⟨cc,cd,bs⟩:=bind_some bs
       refine Az f Z call29 (ih m ac h1 bG cb cd) λce cf cg w ch m ci a f=> ?_
       obtain⟨cj,ck,rfl,rfl,cl⟩:=ci
       have bC:=rd1 ch bC
       refine Aa ?_
       refine b8 cf [ck] _ _ (gt ca ch) m ?_
       refine Ay 13 17 Z f Z λa f=>q_p 14 17 Z f (λ_=>AB (f.e Z) Z) λa f=>q_p 15 17 Z f (λ_=>AB (f.e Z) Z) λa f=>q_p 16 17 Z f (λ_=>CH (f.e Z)) λa f=>A1 λcm w cn m=> ?_
       have bC:=rd1 cn bC
       have cl:=Ow.mono (RSl.mono (RI.mono _)) cn cl
       refine Ac f Z λa f=>AG ?_
       refine Ab f Z λa f=>Aa ?_
       rcases Af bs with⟨co,bs⟩|⟨co,bs⟩
       ·refine Al f Z co ?_
        refine Ae ?_
        refine Ab f Z λa f=>AU (R:=R1) (xs:=([bw]:LL)) (RSl.one _) m T24 f Z Z Z (by decide) (All2.cons bC (All2.nil _)) λcp cq w a m cr f=>Ab f Z λa f=> ?_
        have⟨ct,cu,bs⟩:=bind_some bs
        refine AX (RSl.one _) 0 m cr Z T24 Z (by decide) f Z Z Z (Ow.src (j:=1) cl m Z) cu λcv cw w a m cx f=>Ac f Z λa f=>Ac f Z λa f=>Aa ?_
        refine Am ?_
        have m:=m.eraseAt 3
        have m:=m.eraseAt 2
        have m:=m.eraseAt 1
        obtain rfl:=sj bs
        obtain rfl:=bt _ rfl
        obtain rfl:=sj a1
        obtain rfl:=a2 _ rfl
        obtain rfl:=sj hd
        exact⟨[cw,(.bool true)],⟨f.get _ _ Z,f.get _ _ Z,trivial⟩,f.d,_,[cv],(gt a3 (gt a9 (gt bg (gt bu (gt bM (gt bT (gt bZ (gt b7 (gt ca (gt ch cn)))))))))),m,_,_,Z,Z,cx⟩
       ·refine Aj f Z co ?_
        refine Ao ?_
        refine Aq ?_
        refine Ab f Z λa f=>Ak f Z Z AD λa f=>Ac f Z λa f=>Aa ?_
        have m:=m.fr 2
        have m:=m.fr 2
        have m:=m.eraseAt 2
        obtain rfl:=sj bs
        exact⟨_,Z,_,Z,_,(gt bu (gt bM (gt bT (gt bZ (gt b7 (gt ca (gt ch cn))))))),f.k Z,m⟩
      ·refine Aj f Z bv ?_
       refine AO Z ?_
       have m:=m.eraseAt 1
       obtain rfl:=sj bs
       obtain rfl:=bt _ rfl
       exact⟨_,Z,_,bu,f.k Z,m⟩
     ·rintro a w ⟨_,rfl,bn,cy,f,m⟩
      refine Aq ?_
      refine Ab f Z λa f=>Ak f Z Z AD λa f=>Ac f Z λa f=>Aa ?_
      obtain rfl:=sj a1
      exact⟨_,Z,_,Z,_,(gt a3 (gt a9 (gt bg cy))),f.k Z,m⟩
    ·refine Aj f Z a4 ?_
     refine AO Z ?_
     have m:Mem W aZ w H:=Mem.drop (H':=[ib ad 26 [aa]]) m
     obtain rfl:=sj a1
     obtain rfl:=a2 _ rfl
     exact⟨_,Z,_,a3,f.weak trivial,m⟩
   ·rintro a w ⟨_,rfl,aW,cz,f,m⟩
    refine Ae ?_
    refine AU (R:=R1) (xs:=([]:LL)) (RSl.one _) m T24 f Z Z Z (by decide) (All2.nil _) λcA cB w a m cC f=>Ac f Z λa f=>Ac f Z λa f=>Aa ?_
    refine Am ?_
    obtain rfl:=sj hd
    exact⟨[cB,(.bool false)],⟨f.get _ _ Z,f.get _ _ Z,trivial⟩,f.d,_,[cA],cz,m,_,_,Z,Z,cC⟩
theorem Wk.s {aa v1 v2 v3:Value}{ab:LL}{x1:LI}{x2:LL}{x3:LI}(m:Mem W G w (H))(ac:R2 G aa ab)(h1:R1 G v1 x1)(h2:R2 G v2 x2)(h3:R1 G v3 x3){y:(LL)×Bool}(hd:D.s ab x1 x2 x3=some y):
  Calls prog 29 #[(.agg #[aa]),v1,v2,v3] w (Res W G H (λG' Ho v=>∃r0:Value,∃i0:Itm,Ho=[i0]∧v= .tuple #[r0,(.bool y.2)]∧Ow R1 29 G' i0 r0 y.1)):=by
 exact Wk.N BA m ac h1 h2 h3 hd
theorem Wk.T {v0:Value}{x0:LI}{x1:Int}(m:Mem W G w (H))(h0:R1 G v0 x0){y:(LI)×Bool}(hd:D.T x0 x1=some y):
  Calls prog 25 #[v0,(iv x1)] w (Res W G H (λG' Ho v=>∃r0:Value,∃i0:Itm,Ho=[i0]∧v= .tuple #[r0,(.bool y.2)]∧Ow R0 2 G' i0 r0 y.1)):=by
 refine Aw (args:=[v0,(iv x1)]) (N:=34) [.tmp 4,.tmp 5] func25 Z Z (lb Z) Z λa f=> ?_
 unfold D.T at hd
 refine Ae ?_
 refine Ac f Z λa f=>Ac f Z λa f=>AG ?_
 refine Ab f Z λa f=> ?_
 have⟨aa,ab,hd⟩:=bind_some hd
 refine Az f Z call30 (Wk.c m h0 ab) λac ad ae w af m ag a f=> ?_
 obtain⟨ah,ai,rfl,rfl,aj⟩:=ag
 refine Ac f Z λa f=>Aa (Ag (Ae ?_))
 refine Ab f Z λa f=>Bw 0 m aj Z underlying29 f Z Z λa f=>Ak f Z Z BO λa f=>Ac f Z λa f=>Aa ?_
 have⟨ak,al,hd⟩:=bind_some hd
 refine AR (λa w=>∃q_69':LI,ak= .inl q_69'∧∃am:LI,am=q_69'∧∃(an:GH) (ao:Itm),GLe ad an∧Fr a 34 [(6,ah)]∧Mem W an w (ao::H)∧Ow R0 2 an ao ah am) ?_ ?_
 ·refine Ap ?_
  refine AQ (λap a w=>∃aq:LI,∃ar:Int,(aq,ar)=ap∧∃(au:GH) (av:Itm),GLe ad au∧Fr a 34 [(1,(iv x1)),(6,ah),(7,(iv ar))]∧Mem W au w (av::H)∧Ow R0 2 au av ah aq) al ⟨_,_,Z,_,ai,gr,f.k Z,m,aj⟩ ?_
  clear al f m
  rintro ap aw ax ay a w ⟨aq,ar,rfl,au,av,az,f,m,aA⟩
  refine Ag (Ae ?_)
  refine Ab f Z λa f=>Ak f Z Z b_geq λa f=>Aa ?_
  rcases Af ax with⟨aB,ax⟩|⟨aB,ax⟩
  ·refine Al f Z aB ?_
   refine Ao ?_
   refine Ag (Ap (Ae ?_))
   refine Ab f Z λa f=>Ab f Z λa f=> ?_
   have⟨aC,aD,ax⟩:=bind_some ax
   refine BH 0 m aA Z T29 f Z Z Z aD λaE a aF f=>BF 0 m aA Z Pl2 f Z Z aF aD λaG a aH f=> ?_
   subst aH
   refine Ak f Z Z AD λa f=> ?_
   have⟨aI,aJ,ax⟩:=bind_some ax
   refine BH 0 m aA Z T29 f Z Z Z aJ λaK a aL f=>BK 0 m aA Z sizeOf2 f Z Z aL aJ Z Z Z λaM w m aN=>Aa (Ag (Ae ?_))
   refine Ab f Z λa f=>Ab f Z λa f=> ?_
   have⟨aO,aP,ax⟩:=bind_some ax
   refine BH 0 m aN Z T29 f Z Z Z aP λaQ a aR f=>BF 0 m aN Z Pl2 f Z Z aR aP λaS a aT f=> ?_
   subst aT
   refine Ab f Z λa f=>Ak f Z Z AV λa f=>Aa ?_
   rcases Af ax with⟨aU,ax⟩|⟨aU,ax⟩
   ·refine Al f Z aU ?_
    refine Ae ?_
    refine Ab f Z λa f=>Ac f Z λa f=>Ac f Z λa f=>Aa ?_
    refine Am ?_
    obtain rfl:=sj ax
    obtain rfl:=ay _ rfl
    obtain rfl:=sj hd
    exact⟨[ah,(.bool true)],⟨f.get _ _ Z,f.get _ _ Z,trivial⟩,f.d,_,[aM],(gt af az),m,_,_,Z,Z,aN⟩
   ·refine Aj f Z aU ?_
    refine Ao ?_
    refine Aq ?_
    refine Ab f Z λa f=>Ab f Z λa f=> ?_
    have⟨aV,aW,ax⟩:=bind_some ax
    refine BH 0 m aN Z T29 f Z Z Z aW λaX a aY f=>BK 0 m aN Z sizeOf2 f Z Z aY aW Z Z Z λaZ w m a0=>Aa (Aq ?_)
    refine Ab f Z λa f=>Ak f Z Z BO λa f=>Ac f Z λa f=>Aa ?_
    obtain rfl:=sj ax
    exact⟨_,Z,_,_,Z,_,aZ,az,f.k Z,m,a0⟩
  ·refine Aj f Z aB ?_
   refine AO Z ?_
   obtain rfl:=sj ax
   obtain rfl:=ay _ rfl
   exact⟨_,Z,_,Z,_,av,az,f.k Z,m,aA⟩
 ·rintro a w ⟨_,rfl,am,rfl,an,ao,a1,f,m,a2⟩
  refine Ae ?_
  refine Ab f Z λa f=>Ac f Z λa f=>Ac f Z λa f=>Aa ?_
  refine Am ?_
  obtain rfl:=sj hd
  exact⟨[ah,(.bool false)],⟨f.get _ _ Z,f.get _ _ Z,trivial⟩,f.d,_,[ao],(gt af a1),m,_,_,Z,Z,a2⟩
theorem Wk.R {aa:Value}{ab:LL}{x1:Int}(m:Mem W G w (H))(ac:R2 G aa ab){y:Int×(LI)×(LL)×Bool}(hd:D.R ab x1=some y):
  Calls prog 7 #[(.agg #[aa]),(iv x1)] w (Res W G H (λG' Ho v=>∃r0:Value,∃i0:Itm,∃r2:Value,∃i2:Itm,Ho=[i0,i2]∧v= .tuple #[(.agg #[(iv y.1),r0,r2]),(.bool y.2.2.2)]∧Ow R0 2 G' i0 r0 y.2.1∧Ow R1 29 G' i2 r2 y.2.2.1)):=by
 refine Aw (args:=[(.agg #[aa]),(iv x1)]) (N:=67) [.cell 4 31,.tmp 5] func7 Z Z (lb Z) Z λa f=> ?_
 unfold D.R at hd
 refine Ae ?_
 refine Bf (cs:=[aa]) m f Z Z Z λad w a m f=>AH (cs:=[(iv 0),sn,sn]) zeroValue31 m f Z Z λae w a m f=>Ac f Z λa f=>AG ?_
 refine Ab f Z λa f=> ?_
 have⟨af,ag,hd⟩:=bind_some hd
 refine A4 f Z call22 (Wk.q m ag) λah w ai m a f=> ?_
 have ac:=rd2 ai ac
 refine Ab f Z λa f=>l_o f (AB (f.e Z) Z) λa f=>l_o f (AB (f.e Z) Z) λa f=>Ac f Z λa f=>Ac f Z λa f=>Aa (Ag (Ae ?_))
 refine Au 1 0 (ds:=[aa]) m AA f Z Z Z Z Z λa f=> ?_
 have⟨aj,ak,hd⟩:=bind_some hd
 refine A4 f Z call23 (Wk.I0 m ac ak) λal w am m a f=> ?_
 have ac:=rd2 am ac
 refine l_o f (Bp (f.e Z)) λa f=>Ab f Z λa f=> ?_
 refine Be 3 (λa w=>∃an,GLe al an∧Mem W an w (ib ae 31 [(iv 0),sn,sn]::ib ad 26 [aa]::H)∧Fr a 67 [(0,(.agg #[aa])),(1,(iv x1)),(2,(pb ad)),(4,(pb ae)),(6,(iv af.1)),(7,(iv af.2)),(18,(.agg #[aa])),(19,(.bool aj)),(20,(.bool (!aj))),(21,(.bool (!aj))),(24,(.bool ((!aj)||(af.1==0))))]) ?_ ?_
 ·rcases Bool.eq_false_or_eq_true (!aj) with ao|ao
  ·refine As f ao λa f=> ?_
   refine As f ao λa f=>l_o f (AK (f.e Z) ao (f.e Z)) λa f=> ?_
   exact⟨_,gr,m,f.weak ⟨Z,Z,Z,Z,Z,Z,Z,Z,Z,Z,by rw[ao];rfl,trivial⟩⟩
  ·refine Ar f ao ?_
   refine Ab f Z λa f=>Ar f ao ?_
   refine Ak f Z Z Bj λa f=>l_o f (AL (f.e Z) ao (f.e Z)) λa f=> ?_
   exact⟨_,gr,m,f.weak ⟨Z,Z,Z,Z,Z,Z,Z,Z,Z,Z,by rw[ao];rfl,trivial⟩⟩
 ·rintro a w ⟨an,ap,m,f⟩
  have ac:=rd2 ap ac
  refine Aa ?_
  rcases Af hd with⟨aq,hd⟩|⟨aq,hd⟩
  ·refine Al f Z aq ?_
   refine Ae ?_
   have ar:∀w,(Instr.build 31 #[]).run prog w= .ok (.agg #[(iv 0),sn,sn]) w:=by intro w;simp[Instr.build,Instr.fill,A8,A6,AT,AZ,AP,A9]
   refine Bl f Z Z ar λa f=>Ai 0 0 (ds:=[(iv 0),sn,sn]) m sizeOf31 f Z Z Z (Ah Z (Ah Z (Ah Z An))) Z (lb Z) Z λw m=>Ac f Z λa f=>Aa ?_
   refine Am ?_
   obtain⟨au,m,av⟩:=Ow.nil R0 2 m
   obtain⟨aw,m,ax⟩:=Ow.nil R1 29 m
   have ay:=A2 (P:=prog) 2 m Ag31 f (s:=4) rfl rfl rfl
   have m:=m.fr 1
   have m:=m.eraseAt 3
   have m:=m.eraseAt 2
   obtain rfl:=sj hd
   exact⟨[(.agg #[(iv 0),sn,sn]),(.bool false)],⟨ay,f.get _ _ Z,trivial⟩,f.d,_,[au,aw],(gt ai (gt am ap)),m,_,_,_,_,Z,Z,av,ax⟩
  ·refine Aj f Z aq ?_
   refine Ao ?_
   refine Ae ?_
   refine Ab f Z λa f=> ?_
   have⟨az,aA,hd⟩:=bind_some hd
   refine Az f Z call24 (Wk.E m aA) λaB aC aD w aE m aF a f=> ?_
   obtain⟨aG,aH,rfl,rfl,aI⟩:=aF
   have ac:=rd2 aE ac
   refine Ac f Z λa f=>AG ?_
   refine Ab f Z λa f=>Ab f Z λa f=>Ak f Z Z AD λa f=> ?_
   have⟨aJ,aK,hd⟩:=bind_some hd
   refine l_make (R:=R0) m T29 Z (by decide) Z f Z Z Z aK λaL aM w a m aN f=>Ac f Z λa f=>Aa (Ag (Ae ?_))
   refine Ac f Z λa f=>Aa ?_
   have m:Mem W aC w (aH::aL::ib ae 31 [(iv 0),sn,sn]::ib ad 26 [aa]::H):=m.fr 1
   obtain⟨aO,aP,m,aQ⟩:=Ow.stamp (RSl.mono (RI.mono _)) aI m
   have ac:=rd2 aP ac
   have aN:=od1 aP aN
   have⟨aR,aS,hd⟩:=bind_some hd
   refine AR (λa w=>∃q_295':Unit,aR= .inl q_295'∧∃(aT:GH),GLe aO aT∧Fr a 67 [(4,(pb ae))]∧Mem W aT w (ib ae 31 [(iv 0),sn,sn]::H)) ?_ ?_
   ·refine Ap ?_
    have m:=m.fr 1
    have m:Mem W aO w (ib ad 26 [aa]::ib ae 31 [(iv 0),sn,sn]::aL::H):=m.fr 2
    refine AQ (λaU a w=>∃aV:LL,∃aW:LI,∃aX:Bool,(aV,aW,aX)=aU∧∃(aY:GH) (aZ:Value) (a2:Value) (a3:Itm),GLe aO aY∧Fr a 67 [(1,(iv x1)),(2,(pb ad)),(4,(pb ae)),(8,aZ),(9,a2),(10,(.bool aX))]∧Mem W aY w (ib ad 26 [aa]::ib ae 31 [(iv 0),sn,sn]::a3::H)∧R2 aY aZ aV∧Ow R0 2 aY a3 a2 aW) aS ⟨_,_,_,Z,_,aG,aM,aL,gr,f.k Z,m,aQ,aN⟩ ?_
    clear aS f m
    rintro aU a4 a5 a6 a w ⟨aV,aW,aX,rfl,aY,aZ,a2,a3,a7,f,m,a8,a9⟩
    have ac:=rd2 a7 ac
    refine Ag (Ae ?_)
    refine Ab f Z λa f=>Aa ?_
    rcases Af a5 with⟨ba,a5⟩|⟨ba,a5⟩
    ·refine Al f Z ba ?_
     refine Ao ?_
     refine Ag (Ap (Ag (Ae ?_)))
     refine Au 0 0 (ds:=[aa]) m AA f Z Z Z Z Z λa f=>Ab f Z λa f=>Ab f Z λa f=> ?_
     have⟨bb,bc,a5⟩:=bind_some a5
     refine Az f Z call27 (Ow.lendCall (RI.mono _) 2 a9 m Z (λbd be m bf=>Wk.j0 m (rd2 be ac) bf bc) (λ_ _ _ _ h=>h)) λbg bh bi w bj m bk a f=> ?_
     obtain⟨rfl,rfl⟩:=bk
     have a8:=rd2 bj a8
     have ac:=rd2 bj ac
     have a9:=od1 bj a9
     refine l_o f (Bp (f.e Z)) λa f=>Ab f Z λa f=> ?_
     have⟨bl,bm,a5⟩:=bind_some a5
     refine Be 6 (λa w=>∃bn,GLe bh bn∧Mem W bn w (ib ad 26 [aa]::ib ae 31 [(iv 0),sn,sn]::a3::H)∧Fr a 67 [(1,(iv x1)),(2,(pb ad)),(4,(pb ae)),(8,aZ),(9,a2),(10,(.bool aX)),(32,(.bool aX)),(40,(.agg #[aa])),(41,(iv x1)),(42,a2),(43,(.bool bb)),(44,(.bool (!bb))),(45,(.bool (!bb))),(51,(.bool bl))]) ?_ ?_
     ·rcases Af bm with⟨bo,bm⟩|⟨bo,bm⟩
      ·refine As f bo λa f=> ?_
       refine As f bo λa f=>As f bo λa f=>As f bo λa f=>As f bo λa f=>l_o f (AK (f.e Z) bo (f.e Z)) λa f=> ?_
       obtain rfl:=sj bm
       exact⟨_,gr,m,f.k Z⟩
      ·refine Ar f bo ?_
       refine Au 0 0 (ds:=[aa]) m AA f Z Z Z Z Z λa f=>Ar f bo ?_
       refine Ab f Z λa f=>Ar f bo ?_
       refine Ab f Z λa f=>Ar f bo ?_
       have⟨bp,bq,bm⟩:=bind_some bm
       refine Az f Z call28 (Ow.lendCall (RI.mono _) 2 a9 m Z (λbr bs m bt=>Wk.s0 m (rd2 bs ac) (rd2 bs a8) bt bq) (λ_ _ _ _ h=>h)) λbu bv bw w bx m bz a f=> ?_
       obtain⟨rfl,rfl⟩:=bz
       refine Ar f bo ?_
       refine l_o f (Bp (f.e Z)) λa f=>l_o f (AL (f.e Z) bo (f.e Z)) λa f=> ?_
       obtain rfl:=sj bm
       exact⟨_,bx,m,f.k Z⟩
     ·rintro a w ⟨bn,bA,m,f⟩
      have a8:=rd2 bA a8
      have ac:=rd2 bA ac
      have a9:=od1 bA a9
      refine Aa ?_
      rcases Af a5 with⟨bB,a5⟩|⟨bB,a5⟩
      ·refine Al f Z bB ?_
       refine AO Z ?_
       refine Aq ?_
       refine Ab f Z λa f=>Au 0 0 (ds:=[aa]) m AA f Z Z Z Z Z λa f=> ?_
       have⟨bC,bD,a5⟩:=bind_some a5
       refine A4 f Z call26 (Wk.b m ac bD) λbE w bF m a f=> ?_
       have a8:=rd2 bF a8
       have a9:=od1 bF a9
       have⟨bG,bH,a5⟩:=bind_some a5
       refine Az f Z call25 (Ow.lendCall (RI.mono _) 2 a9 m Z (λbI bJ m bK=>Wk.T m bK bH) (λ_ G' _ _ ⟨a0,a1,e1,e2,o0⟩=>⟨a0,a1,e1,e2,Ow.free (RI.free _) G' o0⟩)) λbL bM bN w bO m bP a f=> ?_
       obtain⟨bQ,bR,rfl,rfl,bS⟩:=bP
       have a8:=rd2 bO a8
       refine Ab f Z λa f=>l_o f (AB (f.e Z) Z) λa f=>l_o f (AB (f.e Z) Z) λa f=>Ac f Z λa f=>Ac f Z λa f=>Aa ?_
       have m:=m.fr 2
       have m:=m.fr 2
       have m:Mem W bM w (ib ad 26 [aa]::ib ae 31 [(iv 0),sn,sn]::bR::H):=m.eraseAt 3
       obtain rfl:=sj a5
       exact⟨_,Z,_,_,_,Z,_,aZ,bQ,bR,(gt a7 (gt bj (gt bA (gt bF bO)))),f.k Z,m,a8,bS⟩
      ·refine Aj f Z bB ?_
       refine Ao ?_
       refine Ae ?_
       refine Au 0 0 (ds:=[aa]) m AA f Z Z Z Z Z λa f=>Ab f Z λa f=>Ab f Z λa f=>Ab f Z λa f=> ?_
       have m:Mem W bn w (a3::ib ad 26 [aa]::ib ae 31 [(iv 0),sn,sn]::H):=m.fr 2
       obtain⟨bT,bU,m,bV⟩:=Ow.stamp (RI.mono _) a9 m
       have a8:=rd2 bU a8
       have ac:=rd2 bU ac
       have⟨bW,bX,a5⟩:=bind_some a5
       refine Az f Z call29 (Wk.s m ac bV a8 bV bX) λbY bZ b0 w b1 m b2 a f=> ?_
       obtain⟨b3,b4,rfl,rfl,b5⟩:=b2
       have a8:=rd2 b1 a8
       have bV:=rd1 b1 bV
       have ac:=rd2 b1 ac
       refine Ab f Z λa f=>l_o f (AB (f.e Z) Z) λa f=>l_o f (AB (f.e Z) Z) λa f=>Ac f Z λa f=>Ac f Z λa f=>AG ?_
       refine Ab f Z λa f=>Aa ?_
       rcases Af a5 with⟨b6,a5⟩|⟨b6,a5⟩
       ·refine Al f Z b6 ?_
        refine Ae ?_
        refine Ab f Z λa f=>Ab f Z λa f=> ?_
        have⟨b7,b8,a5⟩:=bind_some a5
        refine Az f Z call30 (Wk.c m bV b8) λb9 ca cb w cc m cd a f=> ?_
        obtain⟨ce,cf,rfl,rfl,cg⟩:=cd
        have b5:=Ow.mono (RSl.mono (RI.mono _)) cc b5
        refine Ab f Z λa f=> ?_
        have ch:∀w,(Instr.build 31 #[(0,(iv x1)),(1,ce),(2,b3)]).run prog w= .ok (.agg #[(iv x1),ce,b3]) w:=by intro w;simp[Instr.build,Instr.fill,(Ow.cells 0 m cg rfl),(Ow.cells 1 m b5 rfl),A8,A6,AT,AZ,AP,A9]
        refine Bl f Z Z ch λa f=>Ai 3 0 (ds:=[(iv x1),ce,b3]) m sizeOf31 f Z Z Z (Ah Z (Ah (Ow.one1 0 m cg Z) (Ah (Ow.one1 1 m b5 Z) An))) Z (lb Z) Z λw m=>Ac f Z λa f=>Aa ?_
        refine Am ?_
        have ci:=A2 (P:=prog) 3 m Ag31 f (s:=4) rfl rfl rfl
        have m:=m.eraseAt 3
        have m:=m.eraseAt 2
        obtain rfl:=sj a5
        obtain rfl:=a6 _ rfl
        obtain rfl:=sj hd
        exact⟨[(.agg #[(iv x1),ce,b3]),(.bool true)],⟨ci,f.get _ _ Z,trivial⟩,f.d,_,[cf,b4],(gt ai (gt am (gt ap (gt aE (gt aP (gt a7 (gt bj (gt bA (gt bU (gt b1 cc)))))))))),m,_,_,_,_,Z,Z,cg,b5⟩
       ·refine Aj f Z b6 ?_
        refine Ao ?_
        refine Aq ?_
        refine Ab f Z λa f=>Au 1 0 (ds:=[aa]) m AA f Z Z Z Z Z λa f=> ?_
        have⟨cj,ck,a5⟩:=bind_some a5
        refine A4 f Z call26 (Wk.b m ac ck) λcl w cm m a f=> ?_
        have a8:=rd2 cm a8
        have bV:=rd1 cm bV
        have⟨cn,co,a5⟩:=bind_some a5
        refine Az f Z call25 (Wk.T m bV co) λcp cq cr w ct m cu a f=> ?_
        obtain⟨cv,cw,rfl,rfl,cx⟩:=cu
        have a8:=rd2 ct a8
        refine Ab f Z λa f=>l_o f (AB (f.e Z) Z) λa f=>l_o f (AB (f.e Z) Z) λa f=>Ac f Z λa f=>Ac f Z λa f=>Aa ?_
        have m:=m.fr 3
        have m:=m.fr 3
        have m:Mem W cq w (ib ad 26 [aa]::ib ae 31 [(iv 0),sn,sn]::cw::H):=m.eraseAt 3
        obtain rfl:=sj a5
        exact⟨_,Z,_,_,_,Z,_,aZ,cv,cw,(gt a7 (gt bj (gt bA (gt bU (gt b1 (gt cm ct)))))),f.k Z,m,a8,cx⟩
    ·refine Aj f Z ba ?_
     refine AO Z ?_
     have m:=m.fr 1
     have m:=m.eraseAt 2
     have m:=m.eraseAt 1
     obtain rfl:=sj a5
     obtain rfl:=a6 _ rfl
     exact⟨_,Z,_,a7,f.k Z,m⟩
   ·rintro a w ⟨_,rfl,aT,cy,f,m⟩
    refine Ae ?_
    have cz:∀w,(Instr.build 31 #[]).run prog w= .ok (.agg #[(iv 0),sn,sn]) w:=by intro w;simp[Instr.build,Instr.fill,A8,A6,AT,AZ,AP,A9]
    refine Bl f Z Z cz λa f=>Ai 0 0 (ds:=[(iv 0),sn,sn]) m sizeOf31 f Z Z Z (Ah Z (Ah Z (Ah Z An))) Z (lb Z) Z λw m=>Ac f Z λa f=>Aa ?_
    refine Am ?_
    obtain⟨cA,m,cB⟩:=Ow.nil R0 2 m
    obtain⟨cC,m,cD⟩:=Ow.nil R1 29 m
    have cE:=A2 (P:=prog) 2 m Ag31 f (s:=4) rfl rfl rfl
    have m:=m.fr 1
    have m:=m.eraseAt 2
    obtain rfl:=sj hd
    exact⟨[(.agg #[(iv 0),sn,sn]),(.bool false)],⟨cE,f.get _ _ Z,trivial⟩,f.d,_,[cA,cC],(gt ai (gt am (gt ap (gt aE (gt aP cy))))),m,_,_,_,_,Z,Z,cB,cD⟩
theorem Wk.Q0 {aa v1:Value}{ab:LL}{x1:LI}(m:Mem W G w (H))(ac:R2 G aa ab)(h1:R1 G v1 x1){y:Bool}(hd:D.Q0 ab x1=some y):
  Calls prog 31 #[(.agg #[aa]),v1] w (Res W G H (λ_ Ho v=>Ho=[]∧v=(.bool y))):=by
 refine Aw (args:=[(.agg #[aa]),v1]) (N:=47) [.tmp 4] func31 Z Z (lb Z) Z λa f=> ?_
 unfold D.Q0 at hd
 refine Ae ?_
 refine Bf (cs:=[aa]) m f Z Z Z λad w a m f=>Ac f Z λa f=>Aa (Ag (Ae ?_))
 refine Ac f Z λa f=>Aa ?_
 have⟨ae,af,hd⟩:=bind_some hd
 refine AR (λa w=>∃q_235':Unit,ae= .inl q_235'∧∃(ag:GH),GLe G ag∧Fr a 47 []∧Mem W ag w (H)) ?_ ?_
 ·refine Ap ?_
  refine AQ (λah a w=>∃ai:Int,ai=ah∧∃(aj:GH),GLe G aj∧Fr a 47 [(1,v1),(2,(pb ad)),(5,(iv ai))]∧Mem W aj w (ib ad 26 [aa]::H)) af ⟨_,Z,_,gr,f.k Z,m⟩ ?_
  clear af f m
  rintro ah ak al am a w ⟨ai,rfl,aj,an,f,m⟩
  have h1:=rd1 an h1
  have ac:=rd2 an ac
  refine Ag (Ae ?_)
  refine Ab f Z λa f=>Ab f Z λa f=>Bb underlying29 f Z Z h1 λa f=>Ak f Z Z AV λa f=>Aa ?_
  rcases Af al with⟨ao,al⟩|⟨ao,al⟩
  ·refine Al f Z ao ?_
   refine Ao ?_
   refine Ag (Ap (Ag ?_))
   refine Bc 35 AW (by kernel_rfl) m ?_
   refine BC (i:=0) (ds:=[aa]) 35 0 AA Z Z Z Z (by kernel_rfl) Z f Z Z Z λa f=>Ay 1 35 Z f Z λa f=>Ay 2 35 Z f Z λa f=> ?_
   have⟨ap,aq,al⟩:=bind_some al
   refine Bs 3 35 T29 h1 aq Z f Z Z λar au a av aw f=> ?_
   subst aw
   refine Bq 4 35 Pl2 av Z f Z λa f=> ?_
   have⟨ax,ay,al⟩:=bind_some al
   refine BL (i:=5) 35 Z (by kernel_rfl) Z f Z Z Z call59 (λ_ _ w az m=>Wk.m m (rd2 az ac) ay) λa f=>q_p 6 35 Z f (λ_=>Bp (f.e Z)) λa f=>Ay 7 35 Z f Z λa f=> ?_
   have⟨aA,aB,al⟩:=bind_some al
   refine B9 (fuel':=18) (listed':= #[true,true,true,true,true,true,true,true,true,true,true,true,true,true,true,true,true,false,false,false,false,false,false,false,false,false,false,false,false,false,false,false,false,false,false]) (λa=>Fr a 47 [(1,v1),(2,(pb ad)),(5,(iv ai)),(9,(.bool (decide (ai<(x1.length:Int))))),(12,(.agg #[aa])),(13,v1),(14,(iv ai)),(15,ar),(16,(iv ap)),(17,(.bool ax)),(18,(.bool (!ax))),(19,(.bool (!ax))),(28,(.bool aA))]) ?_ ?_
   ·intro a f
    refine Ay 17 35 Z f Z λa f=> ?_
    have⟨aC,aD,al⟩:=bind_some al
    refine B9 (fuel':=0) (listed':= #[true,true,true,true,true,true,true,true,true,true,true,true,true,true,true,true,true,true,true,true,true,true,true,true,true,true,true,true,true,true,true,true,true,true,true]) (λa=>Fr a 47 [(1,v1),(2,(pb ad)),(5,(iv ai)),(9,(.bool (decide (ai<(x1.length:Int))))),(12,(.agg #[aa])),(13,v1),(14,(iv ai)),(15,ar),(16,(iv ap)),(17,(.bool ax)),(18,(.bool (!ax))),(19,(.bool (!ax))),(28,(.bool aA)),(29,(.bool aA)),(46,(.bool aC))]) ?_ ?_
    ·intro a f
     refine A1 λaE w aF m=>Aa ?_
     rcases Af al with⟨aG,al⟩|⟨aG,al⟩
     ·refine Al f Z aG ?_
      refine Ae ?_
      refine Ac f Z λa f=>Aa ?_
      refine Am ?_
      have m:Mem W aE w H:=Mem.drop (H':=[ib ad 26 [aa]]) m
      obtain rfl:=sj al
      obtain rfl:=am _ rfl
      obtain rfl:=sj hd
      exact⟨[(.bool false)],f.g Z,f.d,_,[],(gt an aF),m,Z,Z⟩
     ·refine Aj f Z aG ?_
      refine Ao ?_
      refine Aq ?_
      refine Ab f Z λa f=>Ak f Z Z AD λa f=>Ac f Z λa f=>Aa ?_
      obtain rfl:=sj al
      exact⟨_,Z,_,Z,_,(gt an aF),f.k Z,m⟩
    ·intro aH
     rcases Af aD with⟨aI,aD⟩|⟨aI,aD⟩
     ·refine AF 18 35 Z f aI λa f=> ?_
      refine AF 19 35 Z f aI λa f=>AF 20 35 Z f aI λa f=>BR 21 35 Z f λa f=>BR 22 35 Z f λa f=>BR 23 35 Z f λa f=>BR 24 35 Z f λa f=>BR 25 35 Z f λa f=>BR 26 35 Z f λa f=>BR 27 35 Z f λa f=>BR 28 35 Z f λa f=>BR 29 35 Z f λa f=>BR 30 35 Z f λa f=>BR 31 35 Z f λa f=>BR 32 35 Z f λa f=>AF 33 35 Z f aI λa f=>q_p 34 35 Z f (λ_=>AK (f.e Z) aI (f.e Z)) λa f=> ?_
      obtain rfl:=sj aD
      exact aH _ (f.k Z)
     ·refine Ay (hw:=wo f aI) 18 35 Z f Z λa f=> ?_
      refine q_p (hw:=wo f aI) 19 35 Z f (λ_=>Bi (f.e Z) (f.e Z) Cu) λa f=>Ay (hw:=wo f aI) 20 35 Z f Z λa f=> ?_
      have⟨aJ,aK,aD⟩:=bind_some aD
      refine B9 (fuel':=1) (listed':= #[true,true,true,true,true,true,true,true,true,true,true,true,true,true,true,true,true,true,true,true,true,true,true,true,true,true,true,true,true,true,true,true,true,true,false]) (λa=>Fr a 47 [(1,v1),(2,(pb ad)),(5,(iv ai)),(9,(.bool (decide (ai<(x1.length:Int))))),(12,(.agg #[aa])),(13,v1),(14,(iv ai)),(15,ar),(16,(iv ap)),(17,(.bool ax)),(18,(.bool (!ax))),(19,(.bool (!ax))),(28,(.bool aA)),(29,(.bool aA)),(30,(iv ai)),(31,(.bool (decide ((0:Int)<ai)))),(32,(.bool (decide ((0:Int)<ai)))),(45,(.bool aJ))]) ?_ ?_
      ·intro a f
       refine q_p 34 35 Z f (λ_=>AL (f.e Z) aI (f.e Z)) λa f=> ?_
       obtain rfl:=sj aD
       exact aH _ (f.k Z)
      ·intro aL
       rcases Af aK with⟨aM,aK⟩|⟨aM,aK⟩
       ·refine BC (i:=21) (ds:=[aa]) 35 0 AA Z Z Z Z (by kernel_rfl) Z f (Br f Z Z Z aM) Z Z λa f=> ?_
        refine Ay (hw:=wo f aM) 22 35 Z f Z λa f=>Ay (hw:=wo f aM) 23 35 Z f Z λa f=>q_p (hw:=wo f aM) 24 35 Z f (λ_=>Bi (f.e Z) (f.e Z) BO) λa f=> ?_
        have⟨aN,aO,aK⟩:=bind_some aK
        refine Bs (hw:=wo f aM) 25 35 T29 h1 aO Z f Z Z λaP aQ a aR aS f=> ?_
        subst aS
        refine Bq (hw:=wo f aM) 26 35 Pl2 aR Z f Z λa f=>Ay (hw:=wo f aM) 27 35 Z f Z λa f=>Ay (hw:=wo f aM) 28 35 Z f Z λa f=> ?_
        have⟨aT,aU,aK⟩:=bind_some aK
        refine Bs (hw:=wo f aM) 29 35 T29 h1 aU Z f Z Z λaV aW a aX aY f=> ?_
        subst aY
        refine Bq (hw:=wo f aM) 30 35 Pl2 aX Z f Z λa f=> ?_
        have⟨aZ,a0,aK⟩:=bind_some aK
        refine BL (i:=31) 35 Z (by kernel_rfl) Z f (Br f Z Z Z aM) Z Z call61 (λ_ _ w a1 m=>Wk.i m (rd2 a1 ac) a0) λa f=>q_p (hw:=wo f aM) 32 35 Z f (λ_=>Bp (f.e Z)) λa f=>q_p (hw:=wo f aI) 33 35 Z f (λ_=>AK (f.e Z) aM (f.e Z)) λa f=> ?_
        obtain rfl:=sj aK
        exact aL _ (f.k Z)
       ·refine AF 21 35 Z f aM λa f=> ?_
        refine AF 22 35 Z f aM λa f=>AF 23 35 Z f aM λa f=>AF 24 35 Z f aM λa f=>AF 25 35 Z f aM λa f=>AF 26 35 Z f aM λa f=>AF 27 35 Z f aM λa f=>AF 28 35 Z f aM λa f=>AF 29 35 Z f aM λa f=>AF 30 35 Z f aM λa f=>AF 31 35 Z f aM λa f=>AF 32 35 Z f aM λa f=>q_p (hw:=wo f aI) 33 35 Z f (λ_=>AL (f.e Z) aM (f.e Z)) λa f=> ?_
        obtain rfl:=sj aK
        exact aL _ (f.k Z)
   ·intro a2
    rcases Af aB with⟨a3,aB⟩|⟨a3,aB⟩
    ·refine AF 8 35 Z f a3 λa f=> ?_
     refine AF 9 35 Z f a3 λa f=>AF 10 35 Z f a3 λa f=>AF 11 35 Z f a3 λa f=>AF 12 35 Z f a3 λa f=>AF 13 35 Z f a3 λa f=>AF 14 35 Z f a3 λa f=>AF 15 35 Z f a3 λa f=>q_p 16 35 Z f (λ_=>AK (f.e Z) a3 (f.e Z)) λa f=> ?_
     obtain rfl:=sj aB
     exact a2 _ (f.k Z)
    ·refine Ay (hw:=wo f a3) 8 35 Z f Z λa f=> ?_
     refine Ay (hw:=wo f a3) 9 35 Z f Z λa f=> ?_
     have⟨a4,a5,aB⟩:=bind_some aB
     refine Cv (i:=10) 35 T29 h1 a5 Z (by kernel_rfl) Z f (Br f Z Z Z a3) Z Z (.inl ⟨Z,Z⟩) (.inr ⟨_,_,Z,Z⟩) λa6 a a7 f=>Ay (hw:=wo f a3) 11 35 Z f Z λa f=>Ay (hw:=wo f a3) 12 35 Z f Z λa f=> ?_
     have⟨a8,a9,aB⟩:=bind_some aB
     refine Bs (hw:=wo f a3) 13 35 T29 h1 a9 Z f Z Z λba bb a bc bd f=> ?_
     subst bd
     refine Bq (hw:=wo f a3) 14 35 Pl2 bc Z f Z λa f=> ?_
     have⟨be,bf,aB⟩:=bind_some aB
     refine BL (i:=15) 35 Z (by kernel_rfl) Z f (Br f Z Z Z a3) Z Z call32 (λ_ _ w bg m=>Wk.g m (rd1 bg a7) bf) λa f=>q_p 16 35 Z f (λ_=>AL (f.e Z) a3 (f.e Z)) λa f=> ?_
     obtain rfl:=sj aB
     exact a2 _ (f.k Z)
  ·refine Aj f Z ao ?_
   refine AO Z ?_
   have m:Mem W aj w H:=Mem.drop (H':=[ib ad 26 [aa]]) m
   obtain rfl:=sj al
   obtain rfl:=am _ rfl
   exact⟨_,Z,_,an,f.weak trivial,m⟩
 ·rintro a w ⟨_,rfl,ag,bh,f,m⟩
  refine Ae ?_
  refine Ac f Z λa f=>Aa ?_
  refine Am ?_
  obtain rfl:=sj hd
  exact⟨[(.bool true)],f.g Z,f.d,_,[],bh,m,Z,Z⟩
set_option maxHeartbeats 1000000 in
theorem Wk.I {aa ab ac:Value}{ad:LL}{ae:Int}{af:LI}{ag:LL}(m:Mem W G w (H))(ah:R2 G aa ad)(ai:R1 G ab af)(aj:R2 G ac ag){y:Bool}(hd:D.I ad ae af ag=some y):
  Calls prog 8 #[(.agg #[aa]),(.agg #[(iv ae),ab,ac])] w (Res W G H (λ_ Ho v=>Ho=[]∧v=(.bool y))):=by
 refine Aw (args:=[(.agg #[aa]),(.agg #[(iv ae),ab,ac])]) (N:=116) [.tmp 4] func8 Z Z (lb Z) Z λa f=> ?_
 unfold D.I at hd
 refine Ae ?_
 refine Bf (cs:=[aa]) m f Z Z Z λak w a m f=>Bf (cs:=[(iv ae),ab,ac]) m f Z Z Z λal w a m f=>Ac f Z λa f=>AG ?_
 refine Bh underlying31 Z sizeOf2 f Z λa f=>AE 0 0 m Pl2 f Z Z Z Z λa f=> ?_
 have⟨am,an,hd⟩:=bind_some hd
 refine Az f Z call24 (Wk.E m an) λao ap aq w ar m au a f=> ?_
 obtain⟨av,aw,rfl,rfl,ax⟩:=au
 have ah:=rd2 ar ah
 have ai:=rd1 ar ai
 have aj:=rd2 ar aj
 refine Ac f Z λa f=>Aa (Ag (Ae ?_))
 refine Au 2 0 (ds:=[aa]) m AA f Z Z Z Z Z λa f=> ?_
 have⟨ay,az,hd⟩:=bind_some hd
 refine A4 f Z call10 (Wk.p m ah az) λaA w aB m a f=> ?_
 have ah:=rd2 aB ah
 have ai:=rd1 aB ai
 have aj:=rd2 aB aj
 have ax:=Ow.mono (RSl.mono (RI.mono _)) aB ax
 refine l_o f (Bp (f.e Z)) λa f=>Ab f Z λa f=> ?_
 have⟨aC,aD,hd⟩:=bind_some hd
 refine Be 8 (λa w=>∃aE,GLe aA aE∧Mem W aE w (aw::ib al 31 [(iv ae),ab,ac]::ib ak 26 [aa]::H)∧Fr a 116 [(0,(.agg #[aa])),(1,(.agg #[(iv ae),ab,ac])),(2,(pb ak)),(3,(pb al)),(5,av),(13,(.agg #[aa])),(14,(.bool ay)),(15,(.bool (!ay))),(16,(.bool (!ay))),(24,(.bool aC))]) ?_ ?_
 ·rcases Af aD with⟨aF,aD⟩|⟨aF,aD⟩
  ·refine As f aF λa f=> ?_
   refine As f aF λa f=>As f aF λa f=>As f aF λa f=>As f aF λa f=>As f aF λa f=>As f aF λa f=>l_o f (AK (f.e Z) aF (f.e Z)) λa f=> ?_
   obtain rfl:=sj aD
   exact⟨_,gr,m,f.k Z⟩
  ·refine Ar f aF ?_
   refine Au 2 0 (ds:=[aa]) m AA f Z Z Z Z Z λa f=>Ar f aF ?_
   refine Bh underlying31 Z sizeOf2 f Z λa f=>Ar f aF ?_
   refine AE 1 0 m Pl2 f Z Z Z Z λa f=>Ar f aF ?_
   refine Bh underlying31 Z sizeOf29 f Z λa f=>Ar f aF ?_
   refine AE 1 1 m By f Z Z Z Z λa f=>Ar f aF ?_
   have⟨aG,aH,aD⟩:=bind_some aD
   refine A4 f Z call27 (Wk.j0 m ah ai aH) λaI w aJ m a f=>Ar f aF ?_
   refine l_o f (Bp (f.e Z)) λa f=>l_o f (AL (f.e Z) aF (f.e Z)) λa f=> ?_
   obtain rfl:=sj aD
   exact⟨_,aJ,m,f.k Z⟩
 ·rintro a w ⟨aE,aK,m,f⟩
  have ah:=rd2 aK ah
  have ai:=rd1 aK ai
  have aj:=rd2 aK aj
  have ax:=Ow.mono (RSl.mono (RI.mono _)) aK ax
  refine Ab f Z λa f=> ?_
  refine Be 7 (λa w=>∃aL,GLe aE aL∧Mem W aL w (aw::ib al 31 [(iv ae),ab,ac]::ib ak 26 [aa]::H)∧Fr a 116 [(0,(.agg #[aa])),(1,(.agg #[(iv ae),ab,ac])),(2,(pb ak)),(3,(pb al)),(5,av),(13,(.agg #[aa])),(14,(.bool ay)),(15,(.bool (!ay))),(16,(.bool (!ay))),(24,(.bool aC)),(25,(.bool aC)),(32,(.bool (aC||((ag.length:Int) !=(am.length:Int)))))]) ?_ ?_
  ·rcases Bool.eq_false_or_eq_true aC with aM|aM
   ·refine As f aM λa f=> ?_
    refine As f aM λa f=>As f aM λa f=>As f aM λa f=>As f aM λa f=>As f aM λa f=>l_o f (AK (f.e Z) aM (f.e Z)) λa f=> ?_
    exact⟨_,gr,m,f.weak ⟨Z,Z,Z,Z,Z,Z,Z,Z,Z,Z,Z,by rw[aM];rfl,trivial⟩⟩
   ·refine Ar f aM ?_
    refine Bh underlying31 Z sizeOf24 f Z λa f=>Ar f aM ?_
    refine AE 1 2 m Bk f Z Z Z Z λa f=>Ar f aM ?_
    refine Bb underlying24 f Z Z aj λa f=>Ar f aM ?_
    refine Ab f Z λa f=>Ar f aM ?_
    refine Bw 0 m ax Z underlying51 f Z Z λa f=>Ar f aM ?_
    refine Ak f Z Z CF λa f=>l_o f (AL (f.e Z) aM (f.e Z)) λa f=> ?_
    exact⟨_,gr,m,f.weak ⟨Z,Z,Z,Z,Z,Z,Z,Z,Z,Z,Z,by rw[aM];rfl,trivial⟩⟩
  ·rintro a w ⟨aL,aN,m,f⟩
   have ah:=rd2 aN ah
   have ai:=rd1 aN ai
   have aj:=rd2 aN aj
   have ax:=Ow.mono (RSl.mono (RI.mono _)) aN ax
   refine Aa ?_
   rcases Af hd with⟨aO,hd⟩|⟨aO,hd⟩
   ·refine Al f Z aO ?_
    refine Ae ?_
    refine Ac f Z λa f=>Aa ?_
    refine Am ?_
    have m:Mem W aL w H:=Mem.drop (H':=[aw,ib al 31 [(iv ae),ab,ac],ib ak 26 [aa]]) m
    obtain rfl:=sj hd
    exact⟨[(.bool false)],f.g Z,f.d,_,[],(gt ar (gt aB (gt aK aN))),m,Z,Z⟩
   ·refine Aj f Z aO ?_
    refine Ao ?_
    refine Ae ?_
    refine Bh underlying31 Z sizeOf29 f Z λa f=>AE 1 1 m By f Z Z Z Z λa f=> ?_
    have⟨aP,aQ,hd⟩:=bind_some hd
    refine Az f Z call30 (Wk.c m ai aQ) λaR aS aT w aU m aV a f=> ?_
    obtain⟨aW,aX,rfl,rfl,aY⟩:=aV
    have ah:=rd2 aU ah
    have ai:=rd1 aU ai
    have aj:=rd2 aU aj
    have ax:=Ow.mono (RSl.mono (RI.mono _)) aU ax
    refine Ac f Z λa f=>Aa (Ag (Ae ?_))
    refine Ac f Z λa f=>Aa ?_
    have⟨aZ,a0,hd⟩:=bind_some hd
    refine AR (λa w=>∃q_651':Unit,aZ= .inl q_651'∧∃(a1:GH),GLe aS a1∧Fr a 116 []∧Mem W a1 w (H)) ?_ ?_
    ·refine Ap ?_
     have m:=m.fr 1
     have m:=m.fr 2
     have m:Mem W aS w (ib ak 26 [aa]::ib al 31 [(iv ae),ab,ac]::aw::aX::H):=m.fr 3
     refine AQ (λa2 a w=>∃a3:LI,∃a4:Int,(a3,a4)=a2∧∃(a5:GH) (a6:Value) (a7:Itm),GLe aS a5∧Fr a 116 [(2,(pb ak)),(3,(pb al)),(5,av),(6,a6),(7,(iv a4))]∧Mem W a5 w (ib ak 26 [aa]::ib al 31 [(iv ae),ab,ac]::aw::a7::H)∧Ow R0 2 a5 a7 a6 a3) a0 ⟨_,_,Z,_,aW,aX,gr,f.k Z,m,aY⟩ ?_
     clear a0 f m
     rintro a2 a8 a9 ba a w ⟨a3,a4,rfl,a5,a6,a7,bb,f,m,bc⟩
     have ah:=rd2 bb ah
     have ai:=rd1 bb ai
     have aj:=rd2 bb aj
     have ax:=Ow.mono (RSl.mono (RI.mono _)) bb ax
     refine Ag (Ae ?_)
     refine Ab f Z λa f=>Ab f Z λa f=>Bw 2 m ax Z underlying51 f Z Z λa f=>Ak f Z Z AV λa f=>Aa ?_
     rcases Af a9 with⟨bd,a9⟩|⟨bd,a9⟩
     ·refine Al f Z bd ?_
      refine Ao ?_
      refine Ag (Ap (Ae ?_))
      refine Bh underlying31 Z sizeOf24 f Z λa f=>AE 1 2 m Bk f Z Z Z Z λa f=>Ab f Z λa f=> ?_
      have⟨be,bf,a9⟩:=bind_some a9
      refine Bo T24 f Z Z Z aj bf λbg bh a bi bj f=>AN m By f Z Z bi λa f=>Ac f Z λa f=>Aa (Ag (Ag ?_))
      refine Bc 49 AW (by kernel_rfl) m ?_
      refine Ay 0 49 Z f Z λa f=>q_len (i:=1) 49 underlying29 bj Z (by kernel_rfl) Z f Z Z Z λa f=>q_p 2 49 Z f (λ_=>Bi (f.e Z) (f.e Z) AV) λa f=>Ay 3 49 Z f Z λa f=>B9 (fuel':=41) (listed':= #[true,true,true,true,true,true,true,true,false,false,false,false,false,false,false,false,false,false,false,false,false,false,false,false,false,false,false,false,false,false,false,false,false,false,false,false,false,false,false,false,false,false,false,false,false,false,false,false,false]) (λa=>Fr a 116 [(2,(pb ak)),(3,(pb al)),(5,av),(6,a6),(7,(iv a4)),(8,bh),(47,bh),(48,(iv (be.length:Int))),(49,(.bool (decide ((be.length:Int)<2)))),(50,(.bool (decide ((be.length:Int)<2)))),(54,(.bool ((decide ((be.length:Int)<2))||(decide ((16:Int)<(be.length:Int))))))]) ?_ ?_
      ·intro a f
       refine Ay 8 49 Z f Z λa f=> ?_
       have⟨bk,bl,a9⟩:=bind_some a9
       refine B9 (fuel':=35) (listed':= #[true,true,true,true,true,true,true,true,true,true,true,true,true,true,false,false,false,false,false,false,false,false,false,false,false,false,false,false,false,false,false,false,false,false,false,false,false,false,false,false,false,false,false,false,false,false,false,false,false]) (λa=>Fr a 116 [(2,(pb ak)),(3,(pb al)),(5,av),(6,a6),(7,(iv a4)),(8,bh),(47,bh),(48,(iv (be.length:Int))),(49,(.bool (decide ((be.length:Int)<2)))),(50,(.bool (decide ((be.length:Int)<2)))),(54,(.bool ((decide ((be.length:Int)<2))||(decide ((16:Int)<(be.length:Int)))))),(55,(.bool ((decide ((be.length:Int)<2))||(decide ((16:Int)<(be.length:Int)))))),(60,(.bool bk))]) ?_ ?_
       ·intro a f
        refine Ay 14 49 Z f Z λa f=> ?_
        have⟨bm,bn,a9⟩:=bind_some a9
        refine B9 (fuel':=19) (listed':= #[true,true,true,true,true,true,true,true,true,true,true,true,true,true,true,true,true,true,true,true,true,true,true,true,true,true,true,true,true,true,false,false,false,false,false,false,false,false,false,false,false,false,false,false,false,false,false,false,false]) (λa=>Fr a 116 [(2,(pb ak)),(3,(pb al)),(5,av),(6,a6),(7,(iv a4)),(8,bh),(47,bh),(48,(iv (be.length:Int))),(49,(.bool (decide ((be.length:Int)<2)))),(50,(.bool (decide ((be.length:Int)<2)))),(54,(.bool ((decide ((be.length:Int)<2))||(decide ((16:Int)<(be.length:Int)))))),(55,(.bool ((decide ((be.length:Int)<2))||(decide ((16:Int)<(be.length:Int)))))),(60,(.bool bk)),(61,(.bool bk)),(76,(.bool bm))]) ?_ ?_
        ·intro a f
         refine Ay 30 49 Z f Z λa f=> ?_
         have⟨bo,bp,a9⟩:=bind_some a9
         refine B9 (fuel':=0) (listed':= #[true,true,true,true,true,true,true,true,true,true,true,true,true,true,true,true,true,true,true,true,true,true,true,true,true,true,true,true,true,true,true,true,true,true,true,true,true,true,true,true,true,true,true,true,true,true,true,true,true]) (λa=>Fr a 116 [(2,(pb ak)),(3,(pb al)),(5,av),(6,a6),(7,(iv a4)),(8,bh),(47,bh),(48,(iv (be.length:Int))),(49,(.bool (decide ((be.length:Int)<2)))),(50,(.bool (decide ((be.length:Int)<2)))),(54,(.bool ((decide ((be.length:Int)<2))||(decide ((16:Int)<(be.length:Int)))))),(55,(.bool ((decide ((be.length:Int)<2))||(decide ((16:Int)<(be.length:Int)))))),(60,(.bool bk)),(61,(.bool bk)),(76,(.bool bm)),(77,(.bool bm)),(95,(.bool bo))]) ?_ ?_
         ·intro a f
          refine A1 λbq w br m=> ?_
          have bj:=rd1 br bj
          have bc:=od1 br bc
          refine Aa ?_
          rcases Af a9 with⟨bs,a9⟩|⟨bs,a9⟩
          ·refine Al f Z bs ?_
           refine Ae ?_
           refine Ac f Z λa f=>Aa ?_
           refine Am ?_
           have m:Mem W bq w H:=Mem.drop (H':=[ib ak 26 [aa],ib al 31 [(iv ae),ab,ac],aw,a7]) m
           obtain rfl:=sj a9
           obtain rfl:=ba _ rfl
           obtain rfl:=sj hd
           exact⟨[(.bool false)],f.g Z,f.d,_,[],(gt ar (gt aB (gt aK (gt aN (gt aU (gt bb br)))))),m,Z,Z⟩
          ·refine Aj f Z bs ?_
           refine Ao ?_
           refine Ae ?_
           refine Ac f Z λa f=>Aa ?_
           have⟨bt,bu,a9⟩:=bind_some a9
           refine AR (λa w=>∃q_1158':LI,bt= .inl q_1158'∧∃bv:LI,bv=q_1158'∧∃(bw:GH) (bx:Value) (bz:Itm),GLe bq bw∧Fr a 116 [(2,(pb ak)),(3,(pb al)),(5,av),(6,bx),(7,(iv a4))]∧Mem W bw w (ib ak 26 [aa]::ib al 31 [(iv ae),ab,ac]::aw::bz::H)∧Ow R0 2 bw bz bx bv) ?_ ?_
           ·refine Ap ?_
            refine AQ (λbA a w=>∃bB:LI,∃bC:Int,(bB,bC)=bA∧∃(bD:GH) (bE:Value) (bF:Itm),GLe bq bD∧Fr a 116 [(2,(pb ak)),(3,(pb al)),(5,av),(6,bE),(7,(iv a4)),(8,bh),(9,(iv bC))]∧Mem W bD w (ib ak 26 [aa]::ib al 31 [(iv ae),ab,ac]::aw::bF::H)∧Ow R0 2 bD bF bE bB) bu ⟨_,_,Z,_,a6,a7,gr,f.k Z,m,bc⟩ ?_
            clear bu f m
            rintro bA bG bH bI a w ⟨bB,bC,rfl,bD,bE,bF,bJ,f,m,bK⟩
            have bj:=rd1 bJ bj
            refine Ag (Ae ?_)
            refine Ab f Z λa f=>Ak f Z Z AD λa f=>Ab f Z λa f=>Bb underlying29 f Z Z bj λa f=>Ak f Z Z AV λa f=>Aa ?_
            rcases Af bH with⟨bL,bH⟩|⟨bL,bH⟩
            ·refine Al f Z bL ?_
             refine Ao ?_
             refine Ag (Ap (Ag (Ae ?_)))
             refine Ab f Z λa f=>Ab f Z λa f=>Ab f Z λa f=> ?_
             have⟨bM,bN,bH⟩:=bind_some bH
             refine Bo T29 f Z Z Z bj bN λbO bP a bQ bR f=> ?_
             subst bR
             refine AN m Pl2 f Z Z bQ λa f=> ?_
             have⟨bS,bT,bH⟩:=bind_some bH
             refine Az f Z call32 (Ow.lendCall (RI.mono _) 3 bK m Z (λbU bV m bW=>Wk.g m bW bT) (λ_ _ _ _ h=>h)) λbX bY bZ w b0 m b1 a f=> ?_
             obtain⟨rfl,rfl⟩:=b1
             have bj:=rd1 b0 bj
             have bK:=od1 b0 bK
             refine Aa ?_
             rcases Af bH with⟨b2,bH⟩|⟨b2,bH⟩
             ·refine Al f Z b2 ?_
              refine Ae ?_
              refine Ac f Z λa f=>Aa ?_
              refine Am ?_
              have m:Mem W bY w H:=Mem.drop (H':=[ib ak 26 [aa],ib al 31 [(iv ae),ab,ac],aw,bF]) m
              obtain rfl:=sj bH
              obtain rfl:=bI _ rfl
              obtain rfl:=sj a9
              obtain rfl:=ba _ rfl
              obtain rfl:=sj hd
              exact⟨[(.bool false)],f.g Z,f.d,_,[],(gt ar (gt aB (gt aK (gt aN (gt aU (gt bb (gt br (gt bJ b0)))))))),m,Z,Z⟩
             ·refine Aj f Z b2 ?_
              refine Ao ?_
              refine Aq ?_
              refine Ab f Z λa f=>Ab f Z λa f=>Ab f Z λa f=> ?_
              have⟨b3,b4,bH⟩:=bind_some bH
              refine Bo T29 f Z Z Z bj b4 λb5 b6 a b7 b8 f=> ?_
              subst b8
              refine AN m Pl2 f Z Z b7 λa f=>AU (R:=R0) (xs:=([b3]:LI)) (RI.one _) m T29 f Z Z Z (by decide) (All2.cons Z (All2.nil _)) λb9 ca w a m cb f=> ?_
              have⟨cc,cd,bH⟩:=bind_some bH
              refine AX (RI.one _) 4 m bK Z T29 Z (by decide) f Z Z Z (Ow.src (j:=0) cb m Z) cd λce cf w a m cg f=>Ac f Z λa f=>Aa (Aq ?_)
              refine Ab f Z λa f=>Ak f Z Z AD λa f=>Ac f Z λa f=>Aa ?_
              have m:=m.fr 4
              have m:=m.fr 4
              have m:Mem W bY w (ib al 31 [(iv ae),ab,ac]::aw::ce::b9::ib ak 26 [aa]::H):=m.fr 4
              have m:=m.fr 4
              have m:Mem W bY w (ib ak 26 [aa]::ib al 31 [(iv ae),ab,ac]::aw::ce::H):=m.eraseAt 4
              obtain rfl:=sj bH
              exact⟨_,Z,_,_,Z,_,cf,ce,(gt bJ b0),f.k Z,m,cg⟩
            ·refine Aj f Z bL ?_
             refine AO Z ?_
             obtain rfl:=sj bH
             obtain rfl:=bI _ rfl
             exact⟨_,Z,_,Z,_,bE,bF,bJ,f.k Z,m,bK⟩
           ·rintro a w ⟨_,rfl,bv,rfl,bw,bx,bz,ch,f,m,ci⟩
            refine Aq ?_
            refine Ab f Z λa f=>Ak f Z Z AD λa f=>Ac f Z λa f=>Aa ?_
            obtain rfl:=sj a9
            exact⟨_,Z,_,_,Z,_,bx,bz,(gt bb (gt br ch)),f.k Z,m,ci⟩
         ·intro cj
          rcases Af bp with⟨ck,bp⟩|⟨ck,bp⟩
          ·refine AF 31 49 Z f ck λa f=> ?_
           refine AF 32 49 Z f ck λa f=>AF 33 49 Z f ck λa f=>AF 34 49 Z f ck λa f=>AF 35 49 Z f ck λa f=>AF 36 49 Z f ck λa f=>AF 37 49 Z f ck λa f=>AF 38 49 Z f ck λa f=>AF 39 49 Z f ck λa f=>AF 40 49 Z f ck λa f=>AF 41 49 Z f ck λa f=>AF 42 49 Z f ck λa f=>AF 43 49 Z f ck λa f=>AF 44 49 Z f ck λa f=>AF 45 49 Z f ck λa f=>AF 46 49 Z f ck λa f=>AF 47 49 Z f ck λa f=>q_p 48 49 Z f (λ_=>AK (f.e Z) ck (f.e Z)) λa f=> ?_
           obtain rfl:=sj bp
           exact cj _ (f.k Z)
          ·refine Ay (hw:=wo f ck) 31 49 Z f Z λa f=> ?_
           refine Ay (hw:=wo f ck) 32 49 Z f Z λa f=>q_len (i:=33) 49 underlying29 bj Z (by kernel_rfl) Z f (Br f Z Z Z ck) Z Z λa f=>q_p (hw:=wo f ck) 34 49 Z f (λ_=>Bi (f.e Z) (f.e Z) BO) λa f=> ?_
           have⟨cl,cm,bp⟩:=bind_some bp
           refine Bs (hw:=wo f ck) 35 49 T29 bj cm Z f Z Z λcn co a cp cq f=> ?_
           subst cq
           refine Bq (hw:=wo f ck) 36 49 Pl2 cp Z f Z λa f=>BB (hw:=wo f ck) 37 49 underlying31 Z sizeOf29 Z f Z λa f=>Bd (hw:=wo f ck) 38 49 1 By Z Z Z f Z λa f=>Ay (hw:=wo f ck) 39 49 Z f Z λa f=>Ay (hw:=wo f ck) 40 49 Z f Z λa f=> ?_
           have⟨cr,ct,bp⟩:=bind_some bp
           refine Ck (hw:=wo f ck) 41 49 2 m ax T51 ct Z f Z Z λcu a cv f=>q_ol (hw:=wo f ck) 42 49 2 ax CU cv ct Z f Z λcw a cx f=> ?_
           have⟨cy,cz,bp⟩:=bind_some bp
           refine Bs (hw:=wo f ck) 43 49 T61 cx cz Z f Z Z λcA cB a cC cD f=> ?_
           subst cD
           refine Bq (hw:=wo f ck) 44 49 Pl3 cC Z f Z λa f=> ?_
           have⟨cE,cF,bp⟩:=bind_some bp
           refine Bs (hw:=wo f ck) 45 49 T29 ai cF Z f Z Z λcG cH a cI cJ f=> ?_
           subst cJ
           refine Bq (hw:=wo f ck) 46 49 Pl2 cI Z f Z λa f=>q_p (hw:=wo f ck) 47 49 Z f (λ_=>Bi (f.e Z) (f.e Z) CF) λa f=>q_p 48 49 Z f (λ_=>AL (f.e Z) ck (f.e Z)) λa f=> ?_
           obtain rfl:=sj bp
           exact cj _ (f.k Z)
        ·intro cK
         rcases Af bn with⟨cL,bn⟩|⟨cL,bn⟩
         ·refine AF 15 49 Z f cL λa f=> ?_
          refine AF 16 49 Z f cL λa f=>AF 17 49 Z f cL λa f=>AF 18 49 Z f cL λa f=>AF 19 49 Z f cL λa f=>AF 20 49 Z f cL λa f=>AF 21 49 Z f cL λa f=>AF 22 49 Z f cL λa f=>AF 23 49 Z f cL λa f=>AF 24 49 Z f cL λa f=>AF 25 49 Z f cL λa f=>AF 26 49 Z f cL λa f=>AF 27 49 Z f cL λa f=>AF 28 49 Z f cL λa f=>q_p 29 49 Z f (λ_=>AK (f.e Z) cL (f.e Z)) λa f=> ?_
          obtain rfl:=sj bn
          exact cK _ (f.k Z)
         ·refine Ay (hw:=wo f cL) 15 49 Z f Z λa f=> ?_
          have⟨cM,cN,bn⟩:=bind_some bn
          refine Bs (hw:=wo f cL) 16 49 T29 bj cN Z f Z Z λcO cP a cQ cR f=> ?_
          subst cR
          refine Bq (hw:=wo f cL) 17 49 Pl2 cQ Z f Z λa f=>BB (hw:=wo f cL) 18 49 underlying31 Z sizeOf29 Z f Z λa f=>Bd (hw:=wo f cL) 19 49 1 By Z Z Z f Z λa f=>Ay (hw:=wo f cL) 20 49 Z f Z λa f=>Ay (hw:=wo f cL) 21 49 Z f Z λa f=> ?_
          have⟨cS,cT,bn⟩:=bind_some bn
          refine Ck (hw:=wo f cL) 22 49 2 m ax T51 cT Z f Z Z λcU a cV f=>q_ol (hw:=wo f cL) 23 49 2 ax CU cV cT Z f Z λcW a cX f=> ?_
          have⟨cY,cZ,bn⟩:=bind_some bn
          refine Bs (hw:=wo f cL) 24 49 T61 cX cZ Z f Z Z λc0 c1 a c2 c3 f=> ?_
          subst c3
          refine Bq (hw:=wo f cL) 25 49 Pl3 c2 Z f Z λa f=> ?_
          have⟨c4,c5,bn⟩:=bind_some bn
          refine Bs (hw:=wo f cL) 26 49 T29 ai c5 Z f Z Z λc6 c7 a c8 c9 f=> ?_
          subst c9
          refine Bq (hw:=wo f cL) 27 49 Pl2 c8 Z f Z λa f=>q_p (hw:=wo f cL) 28 49 Z f (λ_=>Bi (f.e Z) (f.e Z) CF) λa f=>q_p 29 49 Z f (λ_=>AL (f.e Z) cL (f.e Z)) λa f=> ?_
          obtain rfl:=sj bn
          exact cK _ (f.k Z)
       ·intro da
        rcases Af bl with⟨db,bl⟩|⟨db,bl⟩
        ·refine AF 9 49 Z f db λa f=> ?_
         refine AF 10 49 Z f db λa f=>AF 11 49 Z f db λa f=>AF 12 49 Z f db λa f=>q_p 13 49 Z f (λ_=>AK (f.e Z) db (f.e Z)) λa f=> ?_
         obtain rfl:=sj bl
         exact da _ (f.k Z)
        ·refine BC (i:=9) (ds:=[aa]) 49 0 AA Z Z Z Z (by kernel_rfl) Z f (Br f Z Z Z db) Z Z λa f=> ?_
         refine Ay (hw:=wo f db) 10 49 Z f Z λa f=> ?_
         have⟨dc,dd,bl⟩:=bind_some bl
         refine BL (i:=11) 49 Z (by kernel_rfl) Z f (Br f Z Z Z db) Z Z call31 (λ_ _ w de m=>Wk.Q0 m (rd2 de ah) (rd1 de bj) dd) λa f=>q_p (hw:=wo f db) 12 49 Z f (λ_=>Bp (f.e Z)) λa f=>q_p 13 49 Z f (λ_=>AL (f.e Z) db (f.e Z)) λa f=> ?_
         obtain rfl:=sj bl
         exact da _ (f.k Z)
      ·intro df
       rcases Bool.eq_false_or_eq_true (decide ((be.length:Int)<2)) with dg|dg
       ·refine AF 4 49 Z f dg λa f=> ?_
        refine AF 5 49 Z f dg λa f=>AF 6 49 Z f dg λa f=>q_p 7 49 Z f (λ_=>AK (f.e Z) dg (f.e Z)) λa f=> ?_
        exact df _ (f.weak ⟨Z,Z,Z,Z,Z,Z,Z,Z,Z,Z,by rw[dg];rfl,trivial⟩)
       ·refine Ay (hw:=wo f dg) 4 49 Z f Z λa f=> ?_
        refine q_len (i:=5) 49 underlying29 bj Z (by kernel_rfl) Z f (Br f Z Z Z dg) Z Z λa f=>q_p (hw:=wo f dg) 6 49 Z f (λ_=>Bi (f.e Z) (f.e Z) Cu) λa f=>q_p 7 49 Z f (λ_=>AL (f.e Z) dg (f.e Z)) λa f=> ?_
        exact df _ (f.weak ⟨Z,Z,Z,Z,Z,Z,Z,Z,Z,Z,by rw[dg];rfl,trivial⟩)
     ·refine Aj f Z bd ?_
      refine AO Z ?_
      have m:Mem W a5 w H:=Mem.drop (H':=[ib ak 26 [aa],ib al 31 [(iv ae),ab,ac],aw,a7]) m
      obtain rfl:=sj a9
      obtain rfl:=ba _ rfl
      exact⟨_,Z,_,bb,f.weak trivial,m⟩
    ·rintro a w ⟨_,rfl,a1,dh,f,m⟩
     refine Ae ?_
     refine Ac f Z λa f=>Aa ?_
     refine Am ?_
     obtain rfl:=sj hd
     exact⟨[(.bool true)],f.g Z,f.d,_,[],(gt ar (gt aB (gt aK (gt aN (gt aU dh))))),m,Z,Z⟩
theorem Wk.F0 {aa:Value}{ab:LL}(m:Mem W G w (H))(ac:R2 G aa ab){y:Int}(hd:D.F0 ab=some y):
  Calls prog 11 #[(.agg #[aa])] w (Res W G H (λ_ Ho v=>Ho=[]∧v=(iv y))):=by
 refine Aw (args:=[(.agg #[aa])]) (N:=9) [.tmp 2] func11 Z Z (lb Z) Z λa f=> ?_
 unfold D.F0 at hd
 refine Ae ?_
 refine Bf (cs:=[aa]) m f Z Z Z λad w a m f=>Ac f Z λa f=>Aa (Ag (Ae ?_))
 refine Au 0 0 (ds:=[aa]) m AA f Z Z Z Z Z λa f=> ?_
 have⟨ae,af,hd⟩:=bind_some hd
 refine A4 f Z call10 (Wk.p m ac af) λag w ah m a f=> ?_
 have ac:=rd2 ah ac
 refine l_o f (Bp (f.e Z)) λa f=>Aa ?_
 rcases Af hd with⟨ai,hd⟩|⟨ai,hd⟩
 ·refine Al f Z ai ?_
  refine Ae ?_
  refine Ac f Z λa f=>Aa ?_
  refine Am ?_
  have m:Mem W ag w H:=Mem.drop (H':=[ib ad 26 [aa]]) m
  obtain rfl:=sj hd
  exact⟨[(iv 0)],f.g Z,f.d,_,[],ah,m,Z,Z⟩
 ·refine Aj f Z ai ?_
  refine Ao ?_
  refine Ae ?_
  refine Au 0 0 (ds:=[aa]) m AA f Z Z Z Z Z λa f=> ?_
  have⟨aj,ak,hd⟩:=bind_some hd
  refine Az f Z call38 (Wk.M m ac ak) λal am an w ao m ap a f=> ?_
  obtain⟨aq,ar,rfl,rfl,au⟩:=ap
  refine Bw 0 m au Z underlying24 f Z Z λa f=>Ac f Z λa f=>Aa ?_
  refine Am ?_
  have m:Mem W am w H:=Mem.drop (H':=[ar,ib ad 26 [aa]]) m
  obtain rfl:=sj hd
  exact⟨[(iv (aj.length:Int))],f.g Z,f.d,_,[],(gt ah ao),m,Z,Z⟩
theorem Wk.x0 {x0:Int}(m:Mem W G w (H)){y:Int}(hd:D.x0 x0=some y):
  Calls prog 12 #[(iv x0)] w (Res W G H (λ_ Ho v=>Ho=[]∧v=(iv y))):=by
 refine Aw (args:=[(iv x0)]) (N:=6) [.tmp 2] func12 Z Z (lb Z) Z λa f=> ?_
 unfold D.x0 at hd
 refine Ae ?_
 refine Ac f Z λa f=>AG ?_
 refine Ab f Z λa f=> ?_
 have⟨aa,ab,hd⟩:=bind_some hd
 refine Az f Z call33 (Wk.F m ab) λac ad ae w af m ag a f=> ?_
 obtain⟨ah,ai,rfl,rfl,aj⟩:=ag
 refine l_ownR_len 0 m aj Z underlying63 f Z Z λa f=>Ac f Z λa f=>Aa ?_
 refine Am ?_
 have m:Mem W ad w H:=Mem.drop (H':=[ai]) m
 obtain rfl:=sj hd
 exact⟨[(iv (aa.length:Int))],f.g Z,f.d,_,[],af,m,Z,Z⟩
set_option maxHeartbeats 1000000 in
theorem Wk.f1 {v0:Value}{x0:LI}(hW:B4 W)(m:Mem W G w (H))(h0:RSl (RI .u8) G v0 x0){y:Bool}(hd:D.f1 x0=some y):
  Calls prog 3 #[v0] w (Res W G H (λ_ Ho v=>Ho=[]∧v=(.bool y))):=by
 refine Aw (args:=[v0]) (N:=82) [.tmp 2] func3 Z Z (lb Z) Z λa f=> ?_
 unfold D.f1 at hd
 refine Ae ?_
 refine Ac f Z λa f=>Aa (Ag (Ae ?_))
 refine Ab f Z λa f=> ?_
 have⟨aa,ab,hd⟩:=bind_some hd
 refine A4 f Z call4 (Wk.d1 m h0 ab) λac w ad m a f=> ?_
 have h0:=rd1 ad h0
 refine Aa ?_
 rcases Af hd with⟨ae,hd⟩|⟨ae,hd⟩
 ·refine Al f Z ae ?_
  refine Ae ?_
  refine Ac f Z λa f=>Aa ?_
  refine Am ?_
  obtain rfl:=sj hd
  exact⟨[(.bool true)],f.g Z,f.d,_,[],ad,m,Z,Z⟩
 ·refine Aj f Z ae ?_
  refine Ao ?_
  refine Ae ?_
  refine Ab f Z λa f=> ?_
  have⟨af,ag,hd⟩:=bind_some hd
  refine Az f Z call5 (Wk.E0 m h0 ag) λah ai aj w ak m al a f=> ?_
  obtain⟨am,rfl,rfl,an⟩:=al
  refine Ab f Z λa f=>l_o f (AB (f.e Z) Z) λa f=>l_o f (AB (f.e Z) Z) λa f=>AH (cs:=[sn]) zeroValue26 m f Z Z λao w a m f=>Ai 0 0 (ds:=[am]) m sizeOf26 f Z Z Z (Ah an.one1 An) Z (lb Z) Z λw m=>Ac f Z λa f=>AG ?_
  refine Au 0 0 (ds:=[am]) m AA f Z Z Z Z Z λa f=>Ab f Z λa f=> ?_
  have⟨ap,aq,hd⟩:=bind_some hd
  refine Az f Z call6 (Wk.C hW m an aq) λar au av w aw m ax a f=> ?_
  obtain⟨ay,az,aA,aB,rfl,rfl,aC,aD⟩:=ax
  have an:=rd2 aw an
  refine Ab f Z λa f=>l_o f (AB (f.e Z) Z) λa f=>l_o f (AB (f.e Z) Z) λa f=>AH (cs:=[(iv 0),sn,sn]) zeroValue31 m f Z Z λaE w a m f=>Ai 0 0 (ds:=[(iv ap.1),ay,aA]) m sizeOf31 f Z Z Z (Ah Z (Ah (Ow.one1 1 m aC Z) (Ah (Ow.one1 2 m aD Z) An))) Z (lb Z) Z λw m=>Ac f Z λa f=>AG ?_
  refine Au 3 0 (ds:=[am]) m AA f Z Z Z Z Z λa f=>Ab f Z λa f=> ?_
  have⟨aF,aG,hd⟩:=bind_some hd
  refine Az f Z call7 (Wk.R m an aG) λaH aI aJ w aK m aL a f=> ?_
  obtain⟨aM,aN,aO,aP,rfl,rfl,aQ,aR⟩:=aL
  have an:=rd2 aK an
  have aC:=od1 aK aC
  have aD:=Ow.mono (RSl.mono (RI.mono _)) aK aD
  refine Ab f Z λa f=>l_o f (AB (f.e Z) Z) λa f=>l_o f (AB (f.e Z) Z) λa f=>AH (cs:=[(iv 0),sn,sn]) zeroValue31 m f Z Z λaS w a m f=>Ai 0 0 (ds:=[(iv aF.1),aM,aO]) m sizeOf31 f Z Z Z (Ah Z (Ah (Ow.one1 1 m aQ Z) (Ah (Ow.one1 2 m aR Z) An))) Z (lb Z) Z λw m=>Ac f Z λa f=>Aa (Ag (Ae ?_))
  refine Ab f Z λa f=>Ab f Z λa f=>l_o f (r_bool_neq (f.e Z) (f.e Z) underlying4) λa f=>Ab f Z λa f=> ?_
  have⟨aT,aU,hd⟩:=bind_some hd
  refine Be 14 (λa w=>∃aV,GLe aI aV∧Mem W aV w (ib aS 31 [(iv aF.1),aM,aO]::aN::aP::ib aE 31 [(iv ap.1),ay,aA]::az::aB::ib ao 26 [am]::H)∧Fr a 82 [(0,v0),(3,(pb ao)),(4,(iv af.2)),(5,(pb aE)),(6,(.bool ap.2.2.2)),(7,(pb aS)),(8,(.bool aF.2.2.2)),(32,(.bool ap.2.2.2)),(33,(.bool aF.2.2.2)),(34,(.bool (ap.2.2.2 !=aF.2.2.2))),(35,(.bool (ap.2.2.2 !=aF.2.2.2))),(49,(.bool aT))]) ?_ ?_
  ·rcases Af aU with⟨aW,aU⟩|⟨aW,aU⟩
   ·refine As f aW λa f=> ?_
    refine As f aW λa f=>Bv f Z Z Z λa f=>Bv f Z Z Z λa f=>Bv f Z Z Z λa f=>Bv f Z Z Z λa f=>Bv f Z Z Z λa f=>Bv f Z Z Z λa f=>Bv f Z Z Z λa f=>Bv f Z Z Z λa f=>Bv f Z Z Z λa f=>Bv f Z Z Z λa f=>As f aW λa f=>l_o f (AK (f.e Z) aW (f.e Z)) λa f=> ?_
    obtain rfl:=sj aU
    exact⟨_,gr,m,f.k Z⟩
   ·refine Ar f aW ?_
    refine Ab f Z λa f=>Ar f aW ?_
    refine Ab f Z λa f=> ?_
    have⟨aX,aY,aU⟩:=bind_some aU
    refine Be 11 (λa w=>∃aZ,GLe aI aZ∧Mem W aZ w (ib aS 31 [(iv aF.1),aM,aO]::aN::aP::ib aE 31 [(iv ap.1),ay,aA]::az::aB::ib ao 26 [am]::H)∧Fr a 82 [(0,v0),(3,(pb ao)),(4,(iv af.2)),(5,(pb aE)),(6,(.bool ap.2.2.2)),(7,(pb aS)),(8,(.bool aF.2.2.2)),(32,(.bool ap.2.2.2)),(33,(.bool aF.2.2.2)),(34,(.bool (ap.2.2.2 !=aF.2.2.2))),(35,(.bool (ap.2.2.2 !=aF.2.2.2))),(36,(.bool ap.2.2.2)),(37,(.bool ap.2.2.2)),(48,(.bool aX))]) ?_ ?_
    ·rcases Af aY with⟨a0,aY⟩|⟨a0,aY⟩
     ·refine Ar f a0 ?_
      refine Bh underlying31 Z sizeOf2 f Z λa f=>Ar f a0 ?_
      refine AE 3 0 m Pl2 f Z Z Z Z λa f=>Ar f a0 ?_
      refine Ab f Z λa f=>Ar f a0 ?_
      refine Ak f Z Z CF λa f=>Ar f a0 ?_
      refine Ab f Z λa f=> ?_
      have⟨a1,a2,aY⟩:=bind_some aY
      refine Be 5 (λa w=>∃a3,GLe aI a3∧Mem W a3 w (ib aS 31 [(iv aF.1),aM,aO]::aN::aP::ib aE 31 [(iv ap.1),ay,aA]::az::aB::ib ao 26 [am]::H)∧Fr a 82 [(0,v0),(3,(pb ao)),(4,(iv af.2)),(5,(pb aE)),(6,(.bool ap.2.2.2)),(7,(pb aS)),(8,(.bool aF.2.2.2)),(32,(.bool ap.2.2.2)),(33,(.bool aF.2.2.2)),(34,(.bool (ap.2.2.2 !=aF.2.2.2))),(35,(.bool (ap.2.2.2 !=aF.2.2.2))),(36,(.bool ap.2.2.2)),(37,(.bool ap.2.2.2)),(38,(pb aE)),(39,(iv ap.1)),(40,(iv af.2)),(41,(.bool (ap.1 !=af.2))),(42,(.bool (ap.1 !=af.2))),(47,(.bool a1))]) ?_ ?_
      ·rcases Af a2 with⟨a4,a2⟩|⟨a4,a2⟩
       ·refine As f a4 λa f=> ?_
        refine As f a4 λa f=>As f a4 λa f=>As f a4 λa f=>Ar f a0 ?_
        refine l_o f (AK (f.e Z) a4 (f.e Z)) λa f=> ?_
        obtain rfl:=sj a2
        exact⟨_,gr,m,f.k Z⟩
       ·refine Ar f a4 ?_
        refine Au 6 0 (ds:=[am]) m AA f Z Z Z Z Z λa f=>Ar f a4 ?_
        refine Au 3 0 (ds:=[(iv ap.1),ay,aA]) m Ag31 f Z Z Z Z Z λa f=>Ar f a4 ?_
        have⟨a5,a6,a2⟩:=bind_some a2
        refine Az f Z call8 (Ow.lendCall (RI.mono _) 4 aC m Z (λa7 a8 m a9=>(Ow.lendCall (RSl.mono (RI.mono _)) 4 (Ow.mono (RSl.mono (RI.mono _)) a8 aD) m Z (λba bb m bc=>Wk.I m (rd2 bb (rd2 a8 an)) (rd1 bb a9) bc a6) (λ_ _ _ _ h=>h))) (λ_ _ _ _ h=>h)) λbd be bf w bg m bh a f=> ?_
        obtain⟨rfl,rfl⟩:=bh
        refine Ar f a4 ?_
        refine l_o f (Bp (f.e Z)) λa f=>Ar f a0 ?_
        refine l_o f (AL (f.e Z) a4 (f.e Z)) λa f=> ?_
        obtain rfl:=sj a2
        exact⟨_,bg,m,f.k Z⟩
      ·rintro a w ⟨a3,bi,m,f⟩
       refine Ar f aW ?_
       refine l_o f (AK (f.e Z) a0 (f.e Z)) λa f=> ?_
       obtain rfl:=sj aY
       exact⟨_,bi,m,f.k Z⟩
     ·refine As f a0 λa f=> ?_
      refine As f a0 λa f=>As f a0 λa f=>As f a0 λa f=>As f a0 λa f=>Bv f Z Z Z λa f=>Bv f Z Z Z λa f=>Bv f Z Z Z λa f=>Bv f Z Z Z λa f=>As f a0 λa f=>Ar f aW ?_
      refine l_o f (AL (f.e Z) a0 (f.e Z)) λa f=> ?_
      obtain rfl:=sj aY
      exact⟨_,gr,m,f.k Z⟩
    ·rintro a w ⟨aZ,bj,m,f⟩
     refine l_o f (AL (f.e Z) aW (f.e Z)) λa f=> ?_
     obtain rfl:=sj aU
     exact⟨_,bj,m,f.k Z⟩
  ·rintro a w ⟨aV,bk,m,f⟩
   refine Aa ?_
   rcases Af hd with⟨bl,hd⟩|⟨bl,hd⟩
   ·refine Al f Z bl ?_
    refine Ae ?_
    refine Ac f Z λa f=>Aa ?_
    refine Am ?_
    have m:Mem W aV w H:=Mem.drop (H':=[ib aS 31 [(iv aF.1),aM,aO],aN,aP,ib aE 31 [(iv ap.1),ay,aA],az,aB,ib ao 26 [am]]) m
    obtain rfl:=sj hd
    exact⟨[(.bool false)],f.g Z,f.d,_,[],(gt ad (gt ak (gt aw (gt aK bk)))),m,Z,Z⟩
   ·refine Aj f Z bl ?_
    refine Ao ?_
    refine Ag (Ae ?_)
    refine Ac f Z λa f=>Aa ?_
    have⟨bm,bn,hd⟩:=bind_some hd
    refine AR (λa w=>∃q_745':Unit,bm= .inl q_745'∧∃(bo:GH),GLe aV bo∧Fr a 82 []∧Mem W bo w (H)) ?_ ?_
    ·refine Ap ?_
     have m:Mem W aV w H:=Mem.drop (H':=[ib aS 31 [(iv aF.1),aM,aO],aN,aP,ib aE 31 [(iv ap.1),ay,aA],az,aB,ib ao 26 [am]]) m
     refine AQ (λbp a w=>∃bq:Int,bq=bp∧∃(br:GH),GLe aV br∧Fr a 82 [(9,(iv bq))]∧Mem W br w (H)) bn ⟨_,Z,_,gr,f.k Z,m⟩ ?_
     clear bn f m
     rintro bp bs bt bu a w ⟨bq,rfl,br,bv,f,m⟩
     refine Ag (Ae ?_)
     refine Ab f Z λa f=>Ak f Z Z Ch λa f=>Aa ?_
     rcases Af bt with⟨bw,bt⟩|⟨bw,bt⟩
     ·refine Al f Z bw ?_
      refine Ao ?_
      refine Ag (Ap (Ae ?_))
      refine Ab f Z λa f=> ?_
      have⟨bx,bz,bt⟩:=bind_some bt
      refine Az f Z call9 (Wk.i0 hW m bz) λbA bB bC w bD m bE a f=> ?_
      obtain⟨bF,bG,rfl,rfl,bH⟩:=bE
      refine AH (cs:=[sn]) zeroValue26 m f Z Z λbI w a m f=>Ai 0 0 (ds:=[bF]) m sizeOf26 f Z Z Z (Ah (Ow.one1 1 m bH Z) An) Z (lb Z) Z λw m=>AG ?_
      refine Au 0 0 (ds:=[bF]) m AA f Z Z Z Z Z λa f=>Ab f Z λa f=> ?_
      have m:=m.fr 1
      obtain⟨bJ,bK,m,bL⟩:=Ow.stamp (RSl.mono (RI.mono _)) bH m
      have⟨bM,bN,bt⟩:=bind_some bt
      refine Az f Z call6 (Wk.C hW m bL bN) λbO bP bQ w bR m bS a f=> ?_
      obtain⟨bT,bU,bV,bW,rfl,rfl,bX,bY⟩:=bS
      have bL:=rd2 bR bL
      refine Ab f Z λa f=>l_o f (AB (f.e Z) Z) λa f=>l_o f (AB (f.e Z) Z) λa f=>AH (cs:=[(iv 0),sn,sn]) zeroValue31 m f Z Z λbZ w a m f=>Ai 0 0 (ds:=[(iv bM.1),bT,bV]) m sizeOf31 f Z Z Z (Ah Z (Ah (Ow.one1 1 m bX Z) (Ah (Ow.one1 2 m bY Z) An))) Z (lb Z) Z λw m=>Ac f Z λa f=>AG ?_
      refine Au 3 0 (ds:=[bF]) m AA f Z Z Z Z Z λa f=> ?_
      have⟨b0,b1,bt⟩:=bind_some bt
      refine A4 f Z call10 (Wk.p m bL b1) λb2 w b3 m a f=> ?_
      have bL:=rd2 b3 bL
      have bX:=od1 b3 bX
      have bY:=Ow.mono (RSl.mono (RI.mono _)) b3 bY
      refine l_o f (Bp (f.e Z)) λa f=>Ab f Z λa f=> ?_
      refine Be 3 (λa w=>∃b4,GLe b2 b4∧Mem W b4 w (ib bZ 31 [(iv bM.1),bT,bV]::bU::bW::ib bI 26 [bF]::H)∧Fr a 82 [(9,(iv bq)),(10,(pb bI)),(11,(pb bZ)),(12,(.bool bM.2.2.2)),(62,(.agg #[bF])),(63,(.bool b0)),(64,(.bool (!b0))),(65,(.bool (!b0))),(68,(.bool ((!b0)||(!bM.2.2.2))))]) ?_ ?_
      ·rcases Bool.eq_false_or_eq_true (!b0) with b5|b5
       ·refine As f b5 λa f=> ?_
        refine As f b5 λa f=>l_o f (AK (f.e Z) b5 (f.e Z)) λa f=> ?_
        exact⟨_,gr,m,f.weak ⟨Z,Z,Z,Z,Z,Z,Z,Z,by rw[b5];rfl,trivial⟩⟩
       ·refine Ar f b5 ?_
        refine Ab f Z λa f=>Ar f b5 ?_
        refine l_o f (Bp (f.e Z)) λa f=>l_o f (AL (f.e Z) b5 (f.e Z)) λa f=> ?_
        exact⟨_,gr,m,f.weak ⟨Z,Z,Z,Z,Z,Z,Z,Z,by rw[b5];rfl,trivial⟩⟩
      ·rintro a w ⟨b4,b6,m,f⟩
       have bL:=rd2 b6 bL
       have bX:=od1 b6 bX
       have bY:=Ow.mono (RSl.mono (RI.mono _)) b6 bY
       refine Ab f Z λa f=> ?_
       have⟨b7,b8,bt⟩:=bind_some bt
       refine Be 5 (λa w=>∃b9,GLe b4 b9∧Mem W b9 w (ib bZ 31 [(iv bM.1),bT,bV]::bU::bW::ib bI 26 [bF]::H)∧Fr a 82 [(9,(iv bq)),(10,(pb bI)),(11,(pb bZ)),(12,(.bool bM.2.2.2)),(62,(.agg #[bF])),(63,(.bool b0)),(64,(.bool (!b0))),(65,(.bool (!b0))),(68,(.bool ((!b0)||(!bM.2.2.2)))),(69,(.bool ((!b0)||(!bM.2.2.2)))),(74,(.bool b7))]) ?_ ?_
       ·rcases Af b8 with⟨ca,b8⟩|⟨ca,b8⟩
        ·refine As f ca λa f=> ?_
         refine As f ca λa f=>As f ca λa f=>As f ca λa f=>l_o f (AK (f.e Z) ca (f.e Z)) λa f=> ?_
         obtain rfl:=sj b8
         exact⟨_,gr,m,f.k Z⟩
        ·refine Ar f ca ?_
         refine Au 3 0 (ds:=[bF]) m AA f Z Z Z Z Z λa f=>Ar f ca ?_
         refine Au 0 0 (ds:=[(iv bM.1),bT,bV]) m Ag31 f Z Z Z Z Z λa f=>Ar f ca ?_
         have⟨cb,cc,b8⟩:=bind_some b8
         refine Az f Z call8 (Ow.lendCall (RI.mono _) 1 bX m Z (λcd ce m cf=>(Ow.lendCall (RSl.mono (RI.mono _)) 1 (Ow.mono (RSl.mono (RI.mono _)) ce bY) m Z (λcg ch m ci=>Wk.I m (rd2 ch (rd2 ce bL)) (rd1 ch cf) ci cc) (λ_ _ _ _ h=>h))) (λ_ _ _ _ h=>h)) λcj ck cl w cm m cn a f=> ?_
         obtain⟨rfl,rfl⟩:=cn
         refine Ar f ca ?_
         refine l_o f (Bp (f.e Z)) λa f=>l_o f (AL (f.e Z) ca (f.e Z)) λa f=> ?_
         obtain rfl:=sj b8
         exact⟨_,cm,m,f.k Z⟩
       ·rintro a w ⟨b9,co,m,f⟩
        have bL:=rd2 co bL
        refine Ab f Z λa f=> ?_
        have⟨cp,cq,bt⟩:=bind_some bt
        refine Be 6 (λa w=>∃cr,GLe b9 cr∧Mem W cr w (ib bZ 31 [(iv bM.1),bT,bV]::bU::bW::ib bI 26 [bF]::H)∧Fr a 82 [(9,(iv bq)),(10,(pb bI)),(11,(pb bZ)),(12,(.bool bM.2.2.2)),(62,(.agg #[bF])),(63,(.bool b0)),(64,(.bool (!b0))),(65,(.bool (!b0))),(68,(.bool ((!b0)||(!bM.2.2.2)))),(69,(.bool ((!b0)||(!bM.2.2.2)))),(74,(.bool b7)),(75,(.bool b7)),(81,(.bool cp))]) ?_ ?_
        ·rcases Af cq with⟨ct,cq⟩|⟨ct,cq⟩
         ·refine As f ct λa f=> ?_
          refine As f ct λa f=>As f ct λa f=>As f ct λa f=>As f ct λa f=>l_o f (AK (f.e Z) ct (f.e Z)) λa f=> ?_
          obtain rfl:=sj cq
          exact⟨_,gr,m,f.k Z⟩
         ·refine Ar f ct ?_
          refine Au 3 0 (ds:=[bF]) m AA f Z Z Z Z Z λa f=>Ar f ct ?_
          have⟨cu,cv,cq⟩:=bind_some cq
          refine A4 f Z call11 (Wk.F0 m bL cv) λcw w cx m a f=>Ar f ct ?_
          refine Ab f Z λa f=>Ar f ct ?_
          have⟨cy,cz,cq⟩:=bind_some cq
          refine A4 f Z call12 (Wk.x0 m cz) λcA w cB m a f=>Ar f ct ?_
          refine Ak f Z Z CF λa f=>l_o f (AL (f.e Z) ct (f.e Z)) λa f=> ?_
          obtain rfl:=sj cq
          exact⟨_,(gt cx cB),m,f.k Z⟩
        ·rintro a w ⟨cr,cC,m,f⟩
         refine Aa ?_
         rcases Af bt with⟨cD,bt⟩|⟨cD,bt⟩
         ·refine Al f Z cD ?_
          refine Ae ?_
          refine Ac f Z λa f=>Aa ?_
          refine Am ?_
          have m:Mem W cr w H:=Mem.drop (H':=[ib bZ 31 [(iv bM.1),bT,bV],bU,bW,ib bI 26 [bF]]) m
          obtain rfl:=sj bt
          obtain rfl:=bu _ rfl
          obtain rfl:=sj hd
          exact⟨[(.bool false)],f.g Z,f.d,_,[],(gt ad (gt ak (gt aw (gt aK (gt bk (gt bv (gt bD (gt bK (gt bR (gt b3 (gt b6 (gt co cC)))))))))))),m,Z,Z⟩
         ·refine Aj f Z cD ?_
          refine Ao ?_
          refine Aq ?_
          refine Ab f Z λa f=>Ak f Z Z AD λa f=>Ac f Z λa f=>Aa ?_
          have m:Mem W cr w H:=Mem.drop (H':=[ib bZ 31 [(iv bM.1),bT,bV],bU,bW,ib bI 26 [bF]]) m
          obtain rfl:=sj bt
          exact⟨_,Z,_,Z,_,(gt bv (gt bD (gt bK (gt bR (gt b3 (gt b6 (gt co cC))))))),f.k Z,m⟩
     ·refine Aj f Z bw ?_
      refine AO Z ?_
      obtain rfl:=sj bt
      obtain rfl:=bu _ rfl
      exact⟨_,Z,_,bv,f.weak trivial,m⟩
    ·rintro a w ⟨_,rfl,bo,cE,f,m⟩
     refine Ae ?_
     refine Ac f Z λa f=>Aa ?_
     refine Am ?_
     obtain rfl:=sj hd
     exact⟨[(.bool true)],f.g Z,f.d,_,[],(gt ad (gt ak (gt aw (gt aK (gt bk cE))))),m,Z,Z⟩
end Go.Proofs.YtaddadondmaeaaaDoor

namespace Go.Sx
end Go.Sx



namespace Go.Sx
def Sh {α:Type}(xs:List α):Prop:=xs.length≤4294967296
theorem CX (a b c:Int):D.e a b c=some (decide (b≤a)&&decide (a≤c)):=rfl
theorem inRange_eq (a b c:Int):D.g1 a b c=some (decide (b≤a)&&decide (a≤c)):=rfl
theorem any_beq (xs:LI)(n:Int):xs.any (λx=>x==n)=decide (n∈xs):=by
 rw[Bool.eq_iff_iff,List.any_eq_true];simp
theorem B7 (xs:LI)(n:Int)(h:Sh xs):D.g xs n=some (decide (n∈xs)):=by
 unfold Sh at h
 unfold D.g
 refine(loop_anyb xs.length (λi=>xs.getD i 0==n) true (λi hi=> ?_) ?_ rfl rfl).trans ?_
 ·simp only[dlt hi,cond_true,AJ hi,bs,wi' hi (by omega),AY hi]
  cases xs[i]==n<;>rfl
 ·simp only[Bm,cond_false]
 ·rw[range_any_list xs (λx=>x==n) _ (λi hi=>by rw[AY hi]),any_beq]
theorem Eg (xs:LI)(n:Int)(h:Sh xs):D.h0 xs n=some (decide (n∈xs)):=by
 unfold Sh at h
 unfold D.h0 D.h1
 have e:AC (σ:=Int) (ρ:=(Unit) ⊕ (Int)) (fun(x_26:Int)=>cond (decide (x_26<(xs.length:Int))) ((idx xs x_26).bind λe_39=>cond (n==e_39) (some (.inr (.inr x_26))) (some (.inl (IntKind.i64.wrap (x_26+1))))) (some (.inr (.inl ())))) 0=
   some (((List.range xs.length).findSome? (λi=>if xs.getD i 0==n then some (Sum.inr (i:Int)) else none)).getD (.inl ())):=by
  refine Ds xs.length _ _ (λi hi=> ?_) ?_
  ·simp only[dlt hi,cond_true,AJ hi,bs,wi' hi (by omega),AY hi]
   rw[show (n==xs[i])=(xs[i]==n) from Bool.beq_comm ..]
   cases xs[i]==n<;>rfl
  ·simp only[Bm,cond_false]
 rw[e,bs]
 cases hf:(List.range xs.length).findSome? (λi=>if xs.getD i 0==n then some (Sum.inr (i:Int):Unit ⊕ Int) else none) with
 |none=>
  have:n∉xs:=λhm=>by
   obtain⟨i,hi,e⟩:=List.getElem_of_mem hm
   have:=(List.findSome?_eq_none_iff.1 hf) i (List.mem_range.2 hi)
   rw[AY hi,e] at this
   simp at this
  simp[this]
 |some r=>
  obtain⟨i,hi,hr⟩:=List.exists_of_findSome?_eq_some hf
  have hi':=List.mem_range.1 hi
  rw[AY hi'] at hr
  split at hr
  ·rename_i hc
   cases hr
   have:n∈xs:=by rw[←(beq_iff_eq.1 hc)];exact List.getElem_mem _
   simp[this]
  ·cases hr
def SetOf (xs:LI)(n:Int):Prop:=Inc xs∧∀x∈xs,0≤x∧x<n
theorem SetOf.len :∀{xs:LI} {n a:Int},Inc xs→(∀x∈xs,a≤x∧x<n)→xs=[]∨(xs.length:Int)≤n-a
 |[],_,_,_,_=> .inl rfl
 |x::xs,n,a,h,hr=>by
  right
  have h':=List.pairwise_cons.1 h
  have hx:=hr x (by simp)
  rcases SetOf.len (a:=x+1) (n:=n) h'.2 (λy hy=>⟨by have:=h'.1 y hy;omega,(hr y (by simp[hy])).2⟩) with e|e
  ·subst e;simp;omega
  ·simp;omega
theorem SetOf.length_le {xs:LI}{n:Int}(h:SetOf xs n)(hn:0≤n):(xs.length:Int)≤n:=by
 rcases SetOf.len h.1 h.2 with e|e
 ·subst e;simpa using hn
 ·omega
theorem inc_iff (xs:LI):Inc xs↔∀i (hi:i+1<xs.length),xs[i]<xs[i+1]:=by
 unfold Inc
 constructor
 ·intro h i hi
  exact List.pairwise_iff_getElem.1 h i (i+1) (by omega) hi (by omega)
 ·intro h
  rw[List.pairwise_iff_getElem]
  intro i j hi hj hij
  have key:∀k,∀hk:i+k+1<xs.length,xs[i]<xs[i+k+1]:=by
   intro k
   induction k with
   |zero=>intro hk;exact h i hk
   |succ k ih=>intro hk;have:=ih (by omega);have:=h (i+k+1) hk;exact Int.lt_trans (ih (by omega)) this
  obtain⟨k,rfl⟩:∃k,j=i+k+1:=⟨j-i-1,by omega⟩
  exact key k hj
def C7 (xs:LI)(n:Int):Bool:=(List.range xs.length).all λi=>(decide (0≤xs.getD i 0)&&decide (xs.getD i 0≤n-1))&& !(decide (0<i)&&decide (xs.getD i 0≤xs.getD (i-1) 0))
theorem Dm (xs:LI)(n:Int):C7 xs n=true↔SetOf xs n:=by
 unfold C7 SetOf
 rw[Cw,inc_iff]
 constructor
 ·intro h
  refine⟨λi hi=> ?_,λx hx=> ?_⟩
  ·have:=h (i+1) hi
   simp[hi,show i<xs.length by omega] at this
   omega
  ·obtain⟨i,hi,rfl⟩:=List.getElem_of_mem hx
   have:=h i hi
   simp[hi] at this
   omega
 ·rintro⟨h1,h2⟩ i hi
  have h3:=h2 _ (List.getElem_mem hi)
  simp[hi]
  refine⟨by omega,?_⟩
  rcases Nat.eq_zero_or_pos i with h0|h0
  ·exact .inl h0
  ·right
   have:=h1 (i-1) (by omega)
   have e:i-1+1=i:=by omega
   simp only[e] at this
   have e2:xs[i-1]?.getD 0=xs[i-1]:=by rw[List.getElem?_eq_getElem (by omega)];rfl
   rw[e2];exact this
theorem increasing_eq (xs:LI)(n:Int)(h:Sh xs)(h0:0≤n)(hn:n≤4294967296):D.L0 xs n=some (C7 xs n):=by
 unfold Sh at h
 unfold D.L0
 refine Ci xs.length _ false (λi hi=> ?_) ?_ rfl rfl
 ·simp only[dlt hi,cond_true,AJ hi,bs,wi' hi (by omega),AY hi,inRange_eq]
  rw[w64 (x:=n-1) (by omega) (by omega)]
  cases (decide (0≤xs[i])&&decide (xs[i]≤n-1))
  ·simp
  ·by_cases h0:0<i
   ·have e1:IntKind.i64.wrap ((i:Int)-1)=((i-1:Nat):Int):=by rw[w64 (by omega) (by omega)];omega
    have hd:decide ((0:Int)<(i:Int))=true:=by simp;omega
    simp only[Bool.not_true,cond_false,hd,cond_true,e1,AJ (show i-1<xs.length by omega),bs,AY (show i-1<xs.length by omega),h0,decide_true,Bool.true_and]
    cases decide (xs[i]≤xs[i-1])<;>rfl
   ·have hd:decide ((0:Int)<(i:Int))=false:=by simp;omega
    simp only[Bool.not_true,cond_false,hd,bs,h0,decide_false,Bool.false_and,Bool.not_false,Bool.and_true,if_true]
 ·simp only[Bm,cond_false]
theorem l1Set_eq (xs:LI)(n:Int)(h:Sh xs)(h0:0≤n)(hn:n≤4294967296):D.g0 xs n=some (C7 xs n):=by
 have hh:=h
 unfold Sh at h
 unfold D.g0
 by_cases hl:n<xs.length
 ·have:C7 xs n=false:=by
   cases hb:C7 xs n
   ·rfl
   ·have:=((Dm xs n).1 hb).length_le h0;omega
  simp[hl,this]
 ·simp only[hl,decide_false,cond_false]
  refine Ci xs.length _ false (λi hi=> ?_) ?_ rfl rfl
  ·simp only[dlt hi,cond_true,AJ hi,bs,wi' hi (by omega),AY hi,CX]
   rw[w64 (x:=n-1) (by omega) (by omega)]
   cases (decide (0≤xs[i])&&decide (xs[i]≤n-1))
   ·simp
   ·by_cases h0:0<i
    ·have e1:IntKind.i64.wrap ((i:Int)-1)=((i-1:Nat):Int):=by rw[w64 (by omega) (by omega)];omega
     have hd:decide ((0:Int)<(i:Int))=true:=by simp;omega
     simp only[Bool.not_true,cond_false,hd,cond_true,e1,AJ (show i-1<xs.length by omega),bs,AY (show i-1<xs.length by omega),h0,decide_true,Bool.true_and]
     cases decide (xs[i]≤xs[i-1])<;>rfl
    ·have hd:decide ((0:Int)<(i:Int))=false:=by simp;omega
     simp only[Bool.not_true,cond_false,hd,bs,h0,decide_false,Bool.false_and,Bool.not_false,Bool.and_true,if_true]
  ·simp only[Bm,cond_false]
def row (g:LL)(v:Nat):LI:=g.getD v []
theorem row_eq {g:LL}{v:Nat}(h:v<g.length):row g v=g[v]:=AY h _
def adj (g:LL)(u v:Nat):Prop:=(v:Int)∈row g u
structure GOk (g:LL):Prop where
 n1:1≤g.length
 n16:g.length≤16
 rows:∀v,v<g.length→SetOf (row g v) g.length
 irr:∀v,v<g.length→¬adj g v v
 sym:∀u v,u<g.length→adj g u v→adj g v u
theorem GOk.mem {g:LL}(h:GOk g){u:Nat}(hu:u<g.length){x:Int}(hx:x∈row g u):∃v:Nat,x=v∧v<g.length∧adj g u v:=by
 have:=(h.rows u hu).2 x hx
 refine⟨x.toNat,by omega,by omega,?_⟩
 unfold adj
 rw[show ((x.toNat:Nat):Int)=x by omega];exact hx
theorem GOk.row_len {g:LL}(h:GOk g){u:Nat}(hu:u<g.length):(row g u).length≤16:=by
 have:=(h.rows u hu).length_le (by omega)
 have:=h.n16
 omega
theorem GOk.lt {g:LL}(h:GOk g){u v:Nat}(hu:u<g.length)(ha:adj g u v):v<g.length:=by
 obtain⟨w,h1,h2,_⟩:=h.mem hu ha
 omega
def Sh2 (g:LL):Prop:=Sh g∧∀r∈g,Sh r
theorem Sh2.row {g:LL}(h:Sh2 g){v:Nat}(hv:v<g.length):Sh (row g v):=by
 rw[row_eq hv];exact h.2 _ (List.getElem_mem hv)
theorem BM {g:LL}{v:Nat}(h:v<g.length):idx g (v:Int)=some (row g v):=by rw[row_eq h,AJ h]
def gB1 (g:LL):Bool:=(List.range g.length).all λv=>C7 (row g v) g.length&& !decide ((v:Int)∈row g v)
def gB2 (g:LL):Bool:=(List.range g.length).all λv=>(row g v).all λx=>decide ((v:Int)∈row g x.toNat)
def gB (g:LL):Bool:=decide (1≤g.length)&&decide (g.length≤16)&&gB1 g&&gB2 g
theorem gB_iff (g:LL):gB g=true↔GOk g:=by
 unfold gB gB1 gB2
 simp only[Bool.and_eq_true,decide_eq_true_eq,Dm,Bool.not_eq_true',decide_eq_false_iff_not,List.all_eq_true,List.mem_range]
 constructor
 ·rintro⟨⟨⟨h1,h2⟩,h3⟩,h4⟩
  refine⟨h1,h2,λv hv=>(h3 v hv).1,λv hv=>(h3 v hv).2,λu v hu ha=> ?_⟩
  have:=h4 u hu v ha
  unfold adj
  simpa using this
 ·intro h
  refine⟨⟨⟨h.n1,h.n16⟩,λv hv=>⟨h.rows v hv,h.irr v hv⟩⟩,λv hv x hx=> ?_⟩
  obtain⟨u,rfl,hu,ha⟩:=h.mem hv hx
  have:=h.sym v u hv ha
  simpa [adj] using this
theorem BE (g:LL)(h:Sh2 g):D.p g=some (gB g):=by
 have hl:g.length≤4294967296:=h.1
 unfold D.p D.b
 simp only[bs,CX]
 by_cases hn:1≤g.length∧g.length≤16
 ·have e:(decide ((1:Int)≤(g.length:Int))&&decide ((g.length:Int)≤16))=true:=by simp;omega
  simp only[e,Bool.not_true,cond_false]
  refine(Ec g.length (λv=>C7 (row g v) g.length&& !decide ((v:Int)∈row g v)) (.inl ()) (.inr false) (λv hv=> ?_) ?_).trans ?_
  rotate_left
  ·simp only[Bm,cond_false]
  ·show cond (gB1 g) _ _=_
   have e4:gB g=(gB1 g&&gB2 g):=by unfold gB;simp[hn.1,hn.2]
   rw[e4]
   cases hc:gB1 g with
   |false=>rfl
   |true=>
    rw[cond_true,Bool.true_and]
    refine Ci g.length _ false (λv hv=> ?_) ?_ rfl rfl
    ·have hset:SetOf (row g v) g.length:=by
      have:=(Cw _ _).1 hc v hv
      simp only[Bool.and_eq_true] at this
      exact(Dm _ _).1 this.1
     simp only[dlt hv,cond_true]
     refine(Ec (row g v).length (λi=>decide ((v:Int)∈row g ((row g v).getD i 0).toNat)) (.inl ()) (.inr false) (λi hi=> ?_) ?_).trans ?_
     ·have hx:=hset.2 _ (List.getElem_mem hi)
      have e5:idx g (row g v)[i]=some (row g ((row g v)[i]).toNat):=by
       have:=BM (g:=g) (v:=((row g v)[i]).toNat) (by omega)
       rwa [show ((((row g v)[i]).toNat:Nat):Int)=(row g v)[i] by omega] at this
      have hs:=h.row (v:=((row g v)[i]).toNat) (by omega)
      simp only[BM hv,bs,dlt hi,cond_true,AJ hi,e5,B7 _ _ hs,wi (show i<4611686018427387904 by have:=h.row hv;unfold Sh at this;omega),AY hi]
      cases decide ((v:Int)∈row g ((row g v)[i]).toNat)<;>rfl
     ·simp only[BM hv,bs,Bm,cond_false]
     ·rw[DF (row g v) (λx=>decide ((v:Int)∈row g x.toNat)) _ (λi hi=>by rw[AY hi]),wi' hv (by omega)]
      cases (row g v).all λx=>decide ((v:Int)∈row g x.toNat)<;>rfl
    ·simp only[Bm,cond_false]
  ·simp only[dlt hv,cond_true,BM hv,bs,l1Set_eq _ _ (h.row hv) (show (0:Int)≤(g.length:Int) by omega) (by omega),B7 _ _ (h.row hv),wi' hv (by omega)]
   cases C7 (row g v) g.length
   ·rfl
   ·cases decide ((v:Int)∈row g v)<;>rfl
 ·have e:(decide ((1:Int)≤(g.length:Int))&&decide ((g.length:Int)≤16))=false:=by
   rw[Bool.eq_false_iff];simp;omega
  simp only[e,Bool.not_false,cond_true]
  unfold gB
  congr 1
  symm
  rw[Bool.eq_false_iff]
  simp
  omega
theorem Dq (g:LL)(h:Sh2 g):D.Z0 g=some (gB g):=by
 have hl:g.length≤4294967296:=h.1
 unfold D.Z0
 by_cases hn:1≤g.length∧g.length≤16
 ·have e:(decide ((g.length:Int)<(1:Int))||decide ((16:Int)<(g.length:Int)))=false:=by simp;omega
  simp only[e,cond_false]
  refine(Ec g.length (λv=>C7 (row g v) g.length&& !decide ((v:Int)∈row g v)) (.inl ()) (.inr false) (λv hv=> ?_) ?_).trans ?_
  rotate_left
  ·simp only[Bm,cond_false]
  ·show cond (gB1 g) _ _=_
   have e4:gB g=(gB1 g&&gB2 g):=by unfold gB;simp[hn.1,hn.2]
   rw[e4]
   cases hc:gB1 g with
   |false=>rfl
   |true=>
    rw[cond_true,Bool.true_and]
    refine Ci g.length _ false (λv hv=> ?_) ?_ rfl rfl
    ·have hset:SetOf (row g v) g.length:=by
      have:=(Cw _ _).1 hc v hv
      simp only[Bool.and_eq_true] at this
      exact(Dm _ _).1 this.1
     simp only[dlt hv,cond_true,BM hv,bs]
     refine(Ec (row g v).length (λi=>decide ((v:Int)∈row g ((row g v).getD i 0).toNat)) (.inl ()) (.inr false) (λi hi=> ?_) ?_).trans ?_
     ·have hx:=hset.2 _ (List.getElem_mem hi)
      have e5:idx g (row g v)[i]=some (row g ((row g v)[i]).toNat):=by
       have:=BM (g:=g) (v:=((row g v)[i]).toNat) (by omega)
       rwa [show ((((row g v)[i]).toNat:Nat):Int)=(row g v)[i] by omega] at this
      have hs:=h.row (v:=((row g v)[i]).toNat) (by omega)
      simp only[bs,dlt hi,cond_true,AJ hi,e5,Eg _ _ hs,wi (show i<4611686018427387904 by have:=h.row hv;unfold Sh at this;omega),AY hi]
      cases decide ((v:Int)∈row g ((row g v)[i]).toNat)<;>rfl
     ·simp only[Bm,cond_false]
     ·rw[DF (row g v) (λx=>decide ((v:Int)∈row g x.toNat)) _ (λi hi=>by rw[AY hi]),wi' hv (by omega)]
      cases (row g v).all λx=>decide ((v:Int)∈row g x.toNat)<;>rfl
    ·simp only[Bm,cond_false]
  ·simp only[dlt hv,cond_true,BM hv,bs,increasing_eq _ _ (h.row hv) (show (0:Int)≤(g.length:Int) by omega) (by omega),Eg _ _ (h.row hv),wi' hv (by omega)]
   cases C7 (row g v) g.length
   ·rfl
   ·cases decide ((v:Int)∈row g v)<;>rfl
 ·have e:(decide ((g.length:Int)<(1:Int))||decide ((16:Int)<(g.length:Int)))=true:=by
   simp;omega
  simp only[e,cond_true]
  unfold gB
  congr 1
  symm
  rw[Bool.eq_false_iff]
  simp
  omega
structure OOk (g:LL)(o:LI):Prop where
 len:o.length=g.length
 rng:∀x∈o,0≤x∧x<g.length
 nd:o.Nodup
def oB (g:LL)(o:LI):Bool:=(List.range o.length).all λi=>(decide (0≤o.getD i 0)&&decide (o.getD i 0≤(g.length:Int)-1))&& !decide (o.getD i 0∈o.take i)
theorem mem_take_iff {α:Type}{l:List α}{i:Nat}{x:α}:x∈l.take i↔∃j,∃h:j<l.length,j<i∧l[j]=x:=by
 rw[List.mem_take_iff_getElem]
 constructor
 ·rintro⟨j,h,e⟩;exact⟨j,by omega,by omega,e⟩
 ·rintro⟨j,h,h2,e⟩;exact⟨j,by omega,e⟩
theorem nodup_iff {l:LI}:l.Nodup↔∀i (hi:i<l.length),l[i]∉l.take i:=by
 constructor
 ·intro h i hi hm
  obtain⟨j,hj,hji,e⟩:=mem_take_iff.1 hm
  have:=(List.pairwise_iff_getElem.1 h) j i hj hi hji
  exact this e
 ·intro h
  refine List.pairwise_iff_getElem.2 (λi j hi hj hij e=>h j hj (mem_take_iff.2 ⟨i,hi,hij,e⟩))
theorem oB_iff (g:LL)(o:LI)(hl:o.length=g.length):oB g o=true↔OOk g o:=by
 unfold oB
 rw[Cw]
 constructor
 ·intro h
  refine⟨hl,λx hx=> ?_,nodup_iff.2 λi hi=> ?_⟩
  ·obtain⟨i,hi,rfl⟩:=List.getElem_of_mem hx
   have:=h i hi
   rw[AY hi] at this
   simp at this;omega
  ·have:=h i hi
   rw[AY hi] at this
   simp at this;exact this.2
 ·intro h i hi
  have h1:=h.rng _ (List.getElem_mem hi)
  have h2:=nodup_iff.1 h.nd i hi
  rw[AY hi]
  simp[h2];omega
def ordB (g:LL)(o:LI):Bool:=decide (o.length=g.length)&&oB g o
theorem ordB_iff (g:LL)(o:LI):ordB g o=true↔OOk g o:=by
 unfold ordB
 by_cases hl:o.length=g.length
 ·simp[hl,oB_iff g o hl]
 ·simp[hl];intro h;exact hl h.len
theorem En (g:LL)(o:LI)(h:Sh2 g)(ho:Sh o):D.M0 g o=some (gB g&&ordB g o):=by
 have hl:g.length≤4294967296:=h.1
 have hol:o.length≤4294967296:=ho
 unfold D.M0
 rw[BE g h,bs]
 cases hg:gB g
 ·rfl
 ·have hg':=(gB_iff g).1 hg
  simp only[cond_true]
  unfold D.c1 D.b ordB
  simp only[bs]
  by_cases hl:o.length=g.length
  ·have e:((o.length:Int) !=(g.length:Int))=false:=by simp[hl]
   simp only[e,cond_false]
   simp only[Option.bind_fun_some,hl,decide_true,Bool.true_and]
   unfold oB
   rw[←hl]
   refine Ci o.length _ false (λi hi=> ?_) ?_ rfl rfl
   ·have hsh:Sh (o.take i):=by unfold Sh;rw[List.length_take];omega
    simp only[dlt hi,cond_true,AJ hi,bs,wi' hi (by omega),AY hi,←hl,D.m,D.b,CX,Cz (show i≤o.length by omega),B7 _ _ hsh]
    rw[w64 (x:=(o.length:Int)-1) (by omega) (by omega)]
    cases (decide (0≤o[i])&&decide (o[i]≤(o.length:Int)-1))
    ·rfl
    ·cases decide (o[i]∈o.take i)<;>rfl
   ·simp only[Bm,cond_false]
  ·have e:((o.length:Int) !=(g.length:Int))=true:=by simp;omega
   simp[e,hl]
theorem C2 (v:Nat):D.f (v:Int)=some (ishl .u32 1 (v:Int)):=by
 unfold D.f
 have:decide ((v:Int)<0)=false:=by simp
 rw[this];rfl
theorem impl_one_eq' {x:Int}(h:0≤x):D.f x=some (ishl .u32 1 x):=by
 have:=C2 x.toNat
 rwa [show ((x.toNat:Nat):Int)=x by omega] at this
def mk (xs:LI):Int:=xs.foldl (λs v=>ior .u32 s (ishl .u32 1 v)) 0
theorem maskOf_eq (xs:LI)(h:Sh xs)(h0:∀x∈xs,0≤x):D.O0 xs=some (mk xs):=by
 unfold Sh at h
 unfold D.O0
 refine(loop_listb xs (λs i=>(s,i)) (λs v=>ior .u32 s (ishl .u32 1 v)) (λs=>s) (λ_=>True) 0 trivial (λs i hi _=>⟨?_,trivial⟩) (λs _=> ?_)).trans rfl
 ·simp only[dlt hi,cond_true,AJ hi,bs,wi' hi (by omega),impl_one_eq' (h0 _ (List.getElem_mem hi))]
 ·simp only[Bm,cond_false]
theorem D5 :∀(xs:LI) (s:Int),VS s→VS (xs.foldl (λs v=>ior .u32 s (ishl .u32 1 v)) s)
 |[],s,h=>h
 |x::xs,s,_=>D5 xs _ (VS.ior _ _)
theorem VS.mk (xs:LI):VS (mk xs):=D5 xs 0 VS.zero
theorem DV (u:Nat):∀(xs:LI) (s:Int),VS s→(∀x∈xs,0≤x∧x<32)→has (xs.foldl (λs v=>ior .u32 s (ishl .u32 1 v)) s) u=(has s u||decide ((u:Int)∈xs))
 |[],s,_,_=>by simp
 |x::xs,s,hs,h=>by
  have hx:=h x (by simp)
  rw[List.foldl_cons,DV u xs _ (VS.ior _ _) (λy hy=>h y (by simp[hy])),Df hs (VS.ishl _ _)]
  obtain⟨k,rfl⟩:∃k:Nat,x=k:=⟨x.toNat,by omega⟩
  rw[CT (by omega)]
  by_cases hu:u=k
  ·subst hu;simp
  ·have:¬(u:Int)=(k:Int):=by omega
   simp[hu,this]
theorem Do {xs:LI}(h:∀x∈xs,0≤x∧x<32)(u:Nat):has (mk xs) u=decide ((u:Int)∈xs):=by
 unfold mk;rw[DV u xs 0 VS.zero h,BT,Bool.false_or]
theorem GOk.mem0 {g:LL}(hg:GOk g){r:LI}(hr:r∈g):r.length≤16∧∀x∈r,0≤x∧x<g.length:=by
 obtain⟨v,hv,rfl⟩:=List.getElem_of_mem hr
 rw[←row_eq hv]
 exact⟨hg.row_len hv,(hg.rows v hv).2⟩
theorem netsOf_eq (g:LL)(hg:GOk g):D.e0 g=some (g.map mk):=by
 have h16:=hg.n16
 unfold D.e0
 refine(DQ g (λs i=>(s,i)) mk (by omega) (λs i hi _=> ?_) (λs=> ?_)).trans rfl
 ·obtain⟨h1,h2⟩:=hg.mem0 (List.getElem_mem hi)
  simp only[dlt hi,cond_true,AJ hi,bs,wi' hi (by omega),maskOf_eq g[i] (by unfold Sh;omega) (λx hx=>(h2 x hx).1)]
 ·simp only[Bm,cond_false]
theorem wide_eq (xs:LI)(h:Sh xs):D.A xs=some xs:=by
 unfold Sh at h
 unfold D.A
 rw[makeD_zero (by omega) (by omega),bs]
 refine(DQ xs (λs i=>(s,i)) (λx=>x) h (λs i hi _=> ?_) (λs=> ?_)).trans (by simp)
 ·simp only[dlt hi,cond_true,AJ hi,bs,wi' hi (by omega)]
 ·simp only[Bm,cond_false]
theorem least_eq {s:Int}(h:VS s)(h0:s≠0):∃k:Nat,k<32∧D.B s=some (k:Int)∧has s k=true∧(∀v,v<k→has s v=false)∧
  (∀v,has (iand .u32 s (IntKind.u32.wrap (s-1))) v=(has s v&& !decide (v=k))):=by
 obtain⟨k,h1,h2,h3,h4,h5⟩:=least_spec h h0
 refine⟨k,h1,?_,h2,h3,h5⟩
 unfold D.B D.b1
 have e:(s==0)=false:=by simpa using h0
 simp only[e,cond_false,h4,tz_table k h1,bs]
 rw[w64 (by omega) (by omega)]
theorem D9 (s:Int)(h:VS s):D.t s=some (Ax s):=by
 unfold D.t
 have key:∀(n:Nat) (x:Int) (l:LI),VS x→(Ax x).length=n→l.length+n≤32→
   AC (σ:=Int×LI) (ρ:=(LI)) (fun(s_52:Int×LI)=>match s_52 with|(x_55,l_56)=>cond (x_55 !=0) ((D.B x_55).bind λy_88=>(AM l_56 ([y_88]:LI)).bind λl_99=>some (.inl ((iand .u32 x_55 (IntKind.u32.wrap (x_55-1))),l_99))) (some (.inr l_56))) (x,l)=some (l++Ax x):=by
  intro n
  induction n with
  |zero=>
   intro x l hx hn _
   have e:Ax x=[]:=List.eq_nil_of_length_eq_zero hn
   have e0:x=0:=hx.eq_zero.2 λv hv=>by
    cases hc:has x v
    ·rfl
    ·have:=mem_elems.2 ⟨v,hv,hc,rfl⟩;rw[e] at this;simp at this
   rw[e]
   refine B6 ?_
   have:(x !=0)=false:=by simp[e0]
   simp only[this,cond_false,List.append_nil]
  |succ n ih=>
   intro x l hx hn hl
   have h0:x≠0:=by rintro rfl;rw[Dc] at hn;simp at hn
   obtain⟨k,h1,h2,h3,h4,h5⟩:=least_eq hx h0
   have e:=elems_least h1 h3 h4 h5
   have en:(Ax (iand .u32 x (IntKind.u32.wrap (x-1)))).length=n:=by rw[e] at hn;simpa using hn
   have hstep:=ih (iand .u32 x (IntKind.u32.wrap (x-1))) (l++[(k:Int)]) (VS.iand _ _) en (by simp;omega)
   have e1:(x !=0)=true:=by simpa using h0
   rw[Ce (s':=(iand .u32 x (IntKind.u32.wrap (x-1)),l++[(k:Int)]))]
   ·rw[hstep,e];simp
   ·simp only[e1,cond_true,h2,bs,A7 (xs:=l) (ys:=[(k:Int)]) (by simp;omega)]
 have:=key (Ax s).length s [] h rfl (by simpa using Dr s)
 rw[this];simp
theorem elems_sh (s:Int):Sh (Ax s):=by have:=Dr s;unfold Sh;omega
theorem numbers_eq (s:Int)(h:VS s):D.z0 s=some (Ax s):=by
 unfold D.z0
 rw[D9 s h,bs,wide_eq _ (elems_sh s)];rfl
theorem DZ (xs:LI)(h:Sh xs):D.c xs=some xs:=by
 unfold Sh at h
 unfold D.c
 rw[A7 (by simpa using h)];rfl
def into (xs:LI)(n:Int):LI:=if n∈xs then xs else xs.takeWhile (λx=>decide (x<n))++n::xs.dropWhile (λx=>decide (x<n))
theorem mem_into {xs:LI}{n x:Int}:x∈into xs n↔x=n∨x∈xs:=by
 unfold into
 split
 ·constructor
  ·intro h;exact .inr h
  ·rintro(rfl|h)
   ·assumption
   ·exact h
 ·have e:x∈xs↔x∈xs.takeWhile (λx=>decide (x<n))++xs.dropWhile (λx=>decide (x<n)):=by rw[List.takeWhile_append_dropWhile]
  rw[e];simp only[List.mem_append,List.mem_cons]
  constructor
  ·rintro(h|h|h)<;>simp[h]
  ·rintro(h|h|h)<;>simp[h]
theorem DS {xs:LI}{n:Int}(h:Inc xs):∀y∈xs.dropWhile (λx=>decide (x<n)),n≤y:=by
 induction xs with
 |nil=>simp
 |cons x xs ih=>
  have h':=List.pairwise_cons.1 h
  intro y hy
  rw[List.dropWhile_cons] at hy
  split at hy
  ·exact ih h'.2 y hy
  ·rename_i hc
   simp at hc
   rcases List.mem_cons.1 hy with rfl|hy
   ·exact hc
   ·have:=h'.1 y hy;omega
theorem inc_takeWhile {xs:LI}{n:Int}:∀y∈xs.takeWhile (λx=>decide (x<n)),y<n:=by
 intro y hy
 induction xs with
 |nil=>simp at hy
 |cons x xs ih=>
  rw[List.takeWhile_cons] at hy
  split at hy
  ·rename_i hc
   rcases List.mem_cons.1 hy with rfl|hy
   ·simpa using hc
   ·exact ih hy
  ·simp at hy
theorem Inc.into {xs:LI}(h:Inc xs)(n:Int):Inc (into xs n):=by
 unfold Sx.into
 split
 ·exact h
 ·rename_i hn
  unfold Inc
  rw[List.pairwise_append]
  refine⟨List.Pairwise.sublist (List.takeWhile_sublist _) h,List.pairwise_cons.2 ⟨λy hy=> ?_,List.Pairwise.sublist (List.dropWhile_sublist _) h⟩,λa ha b hb=> ?_⟩
  ·have h1:=DS h y hy
   have h2:y≠n:=λe=>hn (e▸(List.dropWhile_sublist _).mem hy)
   omega
  ·have h1:=inc_takeWhile a ha
   rcases List.mem_cons.1 hb with rfl|hb
   ·exact h1
   ·have:=DS h b hb;omega
theorem CB {α:Type}(p:α→Bool):∀(xs:List α),xs.takeWhile p=xs.take (xs.takeWhile p).length∧xs.dropWhile p=xs.drop (xs.takeWhile p).length
 |[]=>by simp
 |x::xs=>by
  rw[List.takeWhile_cons,List.dropWhile_cons]
  cases p x
  ·simp
  ·have:=CB p xs
   simp only[if_true,List.length_cons,List.take_succ_cons,List.drop_succ_cons,←this.1,←this.2,and_self]
theorem CD {α:Type}(p:α→Bool):∀(xs:List α) (i:Nat) (h:i<(xs.takeWhile p).length) (h':i<xs.length),p xs[i]=true
 |x::xs,i,h,h'=>by
  rw[List.takeWhile_cons] at h
  cases hp:p x
  ·rw[hp] at h;simp at h
  ·rw[hp] at h
   cases i with
   |zero=>simpa using hp
   |succ i=>simp only[if_true,List.length_cons] at h;simpa using CD p xs i (by omega) (by simpa using h')
theorem CW {α:Type}(p:α→Bool):∀(xs:List α) (h:(xs.takeWhile p).length<xs.length),p (xs[(xs.takeWhile p).length])=false
 |x::xs,h=>by
  cases hp:p x
  ·simp[List.takeWhile_cons,hp]
  ·have h2:(xs.takeWhile p).length<xs.length:=by simpa [List.takeWhile_cons,hp] using h
   simpa [List.takeWhile_cons,hp] using CW p xs h2
theorem Ek {α:Type}(p:α→Bool)(xs:List α):(xs.takeWhile p).length≤xs.length:=(List.takeWhile_sublist _).length_le
theorem l1Into_eq (xs:LI)(n:Int)(h:Inc xs)(hl:xs.length≤4294967295):D.r xs n=some (into xs n):=by
 unfold D.r
 generalize hk:(xs.takeWhile (λx=>decide (x<n))).length=k
 have hkl:k≤xs.length:=by rw[←hk];exact Ek _ _
 have htk:xs.takeWhile (λx=>decide (x<n))=xs.take k:=by rw[←hk];exact(CB _ xs).1
 have hdk:xs.dropWhile (λx=>decide (x<n))=xs.drop k:=by rw[←hk];exact(CB _ xs).2
 refine(BZ (λi=>((i:Nat):Int)) k (k:Int) rfl (λi hi=> ?_) ?_).trans ?_
 ·have hi':i<xs.length:=by omega
  have hp:decide (xs[i]<n)=true:=CD (λx=>decide (x<n)) xs i (by omega) hi'
  simp only[dlt hi',cond_true,AJ hi',bs,hp,wq i]
 ·by_cases hlt:k<xs.length
  ·have hp:decide (xs[k]<n)=false:=by
    have:=CW (λx=>decide (x<n)) xs (by omega)
    simp only[hk] at this;exact this
   simp only[dlt hlt,cond_true,AJ hlt,bs,hp,cond_false]
  ·obtain rfl:k=xs.length:=by omega
   simp only[Bm,cond_false,bs]
 ·have hS1:Sh (xs.take k):=by unfold Sh;rw[List.length_take];omega
  have hrest:((Bt xs 0 (k:Int)).bind λl_135=>(D.c l_135).bind λy_139=>(AM y_139 ([n]:LI)).bind λl_154=>(Bt xs (k:Int) (xs.length:Int)).bind λl_160=>(AM l_154 l_160).bind λl_164=>some l_164)=some (xs.take k++n::xs.drop k):=by
   simp only[Cz hkl,C1 hkl,bs,DZ _ hS1]
   rw[A7 (by simp;omega),bs,A7 (by simp;omega),bs]
   simp
  by_cases hlt:k<xs.length
  ·simp only[dlt hlt,cond_true,AJ hlt,bs]
   by_cases he:xs[k]=n
   ·have hm:n∈xs:=by rw[←he];exact List.getElem_mem _
    have:(xs[k]==n)=true:=by simp[he]
    simp only[this,cond_true]
    unfold into;rw[if_pos hm]
   ·have:(xs[k]==n)=false:=by simpa using he
    simp only[this,cond_false,hrest]
    unfold into
    rw[htk,hdk,if_neg]
    intro hm
    obtain⟨j,hj,e⟩:=List.getElem_of_mem hm
    have hst:decide (xs[k]<n)=false:=by
     have:=CW (λx=>decide (x<n)) xs (by omega)
     simp only[hk] at this;exact this
    simp at hst
    rcases Nat.lt_trichotomy j k with h1|h1|h1
    ·have:=CD (λx=>decide (x<n)) xs j (by omega) hj
     simp at this;omega
    ·subst h1;exact he e
    ·have:=(List.pairwise_iff_getElem.1 h) k j hlt hj h1
     omega
  ·obtain rfl:k=xs.length:=by omega
   simp only[Bm,cond_false,bs,hrest]
   unfold into
   rw[htk,hdk,if_neg]
   intro hm
   obtain⟨j,hj,e⟩:=List.getElem_of_mem hm
   have:=CD (λx=>decide (x<n)) xs j (by omega) hj
   simp at this;omega
end Go.Sx



namespace Go.Sx
structure DK (b:LI)(i:Int):Prop where
 byte:∀x∈b,0≤x∧x≤255
 len:b.length≤4096
 i0:0≤i
 i1:i≤b.length
theorem tmod_rng {x n:Int}(hx:0≤x)(hn:0<n):0≤Int.tmod x n∧Int.tmod x n<n:=
 ⟨Int.tmod_nonneg _ hx,Int.tmod_lt_of_pos _ hn⟩
theorem l1Empty_eq (n:Nat)(hn:n≤16):D.n (n:Int)=some (List.replicate n []):=by
 unfold D.n
 refine(BZ (λi=>((i:Int),List.replicate i [])) n (List.replicate n []) (by simp) (λi hi=> ?_) ?_).trans rfl
 ·simp only[dlt hi,cond_true,wq i]
  rw[A7 (by simp;omega),bs,←List.replicate_succ']
 ·simp only[Bm,cond_false]
theorem De {g:LL}{u v:Nat}{r:LI}(hu:u<g.length):row (g.set u r) v=if v=u then r else row g v:=by
 unfold row
 by_cases h:v=u
 ·subst h;simp[hu]
 ·rw[if_neg h,List.getD_eq_getElem?_getD,List.getElem?_set_ne (λe=>h e.symm),←List.getD_eq_getElem?_getD]
theorem Cr {g:LL}(hg:GOk g){u v:Nat}(hu:u<g.length)(hv:v<g.length)(huv:u≠v):
  ∃g',D.j g (u:Int) (v:Int)=some g'∧GOk g'∧g'.length=g.length∧∀a b,adj g' a b↔adj g a b∨(a=u∧b=v)∨(a=v∧b=u):=by
 have h16:=hg.n16
 have hru:=hg.rows u hu;have hrv:=hg.rows v hv
 have hlu:=hg.row_len hu;have hlv:=hg.row_len hv
 refine⟨(g.set u (into (row g u) v)).set v (into (row g v) u),?_,?_⟩
 ·unfold D.j
  have e1:row (g.set u (into (row g u) v)) v=row g v:=by rw[De hu,if_neg (Ne.symm huv)]
  simp only[BM hu,bs,l1Into_eq _ _ hru.1 (show (row g u).length≤4294967295 by omega),Int.toNat_natCast]
  rw[BM (show v<(g.set u (into (row g u) v)).length by simpa using hv),e1]
  simp only[bs,l1Into_eq _ _ hrv.1 (show (row g v).length≤4294967295 by omega)]
 ·have hrow:∀w,row ((g.set u (into (row g u) v)).set v (into (row g v) u)) w=if w=v then into (row g v) u else if w=u then into (row g u) v else row g w:=by
   intro w
   rw[De (by simpa using hv),De hu]
  have hadj:∀a b,adj ((g.set u (into (row g u) v)).set v (into (row g v) u)) a b↔adj g a b∨(a=u∧b=v)∨(a=v∧b=u):=by
   intro a b
   unfold adj
   rw[hrow]
   by_cases ha:a=v
   ·subst ha
    rw[if_pos rfl,mem_into]
    constructor
    ·rintro(h|h)
     ·exact .inr (.inr ⟨rfl,by omega⟩)
     ·exact .inl h
    ·rintro(h|⟨h,_⟩|⟨_,h⟩)
     ·exact .inr h
     ·exact absurd h.symm huv
     ·exact .inl (by omega)
   ·rw[if_neg ha]
    by_cases ha':a=u
    ·subst ha'
     rw[if_pos rfl,mem_into]
     constructor
     ·rintro(h|h)
      ·exact .inr (.inl ⟨rfl,by omega⟩)
      ·exact .inl h
     ·rintro(h|⟨_,h⟩|⟨h,_⟩)
      ·exact .inr h
      ·exact .inl (by omega)
      ·exact absurd h ha
    ·rw[if_neg ha']
     constructor
     ·exact .inl
     ·rintro(h|⟨h,_⟩|⟨h,_⟩)
      ·exact h
      ·exact absurd h ha'
      ·exact absurd h ha
  refine⟨⟨by simpa using hg.n1,by simpa using h16,λw hw=> ?_,λw hw=> ?_,λa b ha hab=> ?_⟩,by simp,hadj⟩
  ·simp only[List.length_set] at hw ⊢
   rw[hrow]
   split
   ·refine⟨hrv.1.into _,λx hx=> ?_⟩
    rcases mem_into.1 hx with rfl|hx
    ·omega
    ·exact hrv.2 x hx
   ·split
    ·refine⟨hru.1.into _,λx hx=> ?_⟩
     rcases mem_into.1 hx with rfl|hx
     ·omega
     ·exact hru.2 x hx
    ·exact hg.rows w hw
  ·simp only[List.length_set] at hw
   rw[hadj]
   rintro(h|⟨h1,h2⟩|⟨h1,h2⟩)
   ·exact hg.irr w hw h
   ·omega
   ·omega
  ·simp only[List.length_set] at ha
   rw[hadj] at hab ⊢
   rcases hab with h|h|h
   ·exact .inl (hg.sym a b ha h)
   ·exact .inr (.inr ⟨h.2,h.1⟩)
   ·exact .inr (.inl ⟨h.2,h.1⟩)
theorem GOk.empty {n:Nat}(h1:1≤n)(h16:n≤16):GOk (List.replicate n []):=by
 have hr:∀v,row (List.replicate n []) v=[]:=λv=>by
  unfold row
  rw[List.getD_eq_getElem?_getD,List.getElem?_replicate];split<;>rfl
 refine⟨by simpa using h1,by simpa using h16,λv _=> ?_,λv _=> ?_,λu v _ h=> ?_⟩
 ·rw[hr];exact⟨by simp[Inc],by simp⟩
 ·unfold adj;rw[hr];simp
 ·unfold adj at h;rw[hr] at h;simp at h
end Go.Sx



namespace Go.Sx
theorem ext_getD {a b:LI}(hl:a.length=b.length)(h:∀j,j<a.length→a.getD j 0=b.getD j 0):a=b:=by
 apply List.ext_getElem hl
 intro j h1 h2
 have:=h j h1
 rwa [AY h1,AY h2] at this
def nb (F:LI)(u w:Nat):Bool:=has (F.getD u 0) w
structure FOk (F:LI)(n:Nat):Prop where
 len:F.length=n
 vs:∀u,u<n→VS (F.getD u 0)
 lt:∀u w,u<n→nb F u w=true→w<n
 irr:∀u,u<n→nb F u u=false
 sym:∀u w,u<n→nb F u w=true→nb F w u=true
theorem getD_map_mk (g:LL)(u:Nat):(g.map mk).getD u 0=mk (row g u):=by
 unfold row
 simp only[List.getD_eq_getElem?_getD,List.getElem?_map]
 cases g[u]? with
 |none=>simp[mk]
 |some r=>rfl
def grow (F:LI):LL:=F.map Ax
theorem CZ (F:LI)(u:Nat):row (grow F) u=Ax (F.getD u 0):=by
 unfold row grow
 simp only[List.getD_eq_getElem?_getD,List.getElem?_map]
 cases F[u]? with
 |none=>simp[Dc]
 |some r=>rfl
theorem adj_grow {F:LI}{n u w:Nat}(h:FOk F n)(hu:u<n):adj (grow F) u w↔nb F u w=true:=by
 unfold adj nb
 rw[CZ,BI (h.vs u hu)]
theorem GOk.grow {F:LI}{n:Nat}(h:FOk F n)(h1:1≤n)(h16:n≤16):GOk (grow F):=by
 have hl:(Sx.grow F).length=n:=by unfold Sx.grow;rw[List.length_map,h.len]
 refine⟨by omega,by omega,λv hv=> ?_,λv hv ha=> ?_,λu v hu ha=> ?_⟩
 ·rw[CZ,hl]
  refine⟨BY _,λx hx=> ?_⟩
  obtain⟨w,_,h2,rfl⟩:=mem_elems.1 hx
  have:=h.lt v w (by omega) h2
  omega
 ·rw[adj_grow h (by omega)] at ha
  rw[h.irr v (by omega)] at ha;cases ha
 ·rw[adj_grow h (by omega)] at ha
  have:=h.lt u v (by omega) ha
  rw[adj_grow h (by omega)]
  exact h.sym u v (by omega) ha
theorem mk_elems {s:Int}(h:VS s):mk (Ax s)=s:=by
 refine(VS.mk _).ext h (λv hv=> ?_)
 rw[Do (λx hx=>by obtain⟨w,h1,_,rfl⟩:=mem_elems.1 hx;omega),Bool.eq_iff_iff,decide_eq_true_eq,BI h]
theorem grow_mk {F:LI}{n:Nat}(h:FOk F n):(grow F).map mk=F:=by
 refine ext_getD (by simp[grow]) (λj hj=> ?_)
 rw[getD_map_mk,CZ,mk_elems (h.vs j (by simp[grow,h.len] at hj;omega))]
theorem all_mask :∀n:Fin 17,∀v:Fin 32,has (IntKind.u32.wrap (ishl .u32 1 (n.val:Int)-1)) v.val=decide (v.val<n.val):=by decide+kernel
def PEO (F:LI)(o:LI):Prop:=∀(j:Nat) (v u w:Nat),o[j]? =some (v:Int)→nb F v u=true→nb F v w=true→(u:Int)∉o.take (j+1)→(w:Int)∉o.take (j+1)→u≠w→nb F u w=true
def Lat (F L:LI)(o:LI)(i:Nat):Prop:=∀(j:Nat) (v:Nat),j<i→o[j]? =some (v:Int)→∀w,nb L v w=(nb F v w&&decide ((w:Int)∉o.take (j+1)))
inductive Via (F:LI)(gone:Nat→Prop)(u:Nat):Nat→Prop
 |me:Via F gone u u
 |step {x y:Nat}:Via F gone u x→nb F x y=true→gone y→Via F gone u y
def Bhd (F:LI)(gone:Nat→Prop)(v w:Nat):Prop:=∃x,Via F gone v x∧nb F x w=true
def cnt (n k:Nat):Nat:=((List.range k).filter (λi=>n.testBit i)).length
theorem cnt_add (n a b:Nat):cnt n (a+b)=cnt n a+cnt (n>>>a) b:=by
 unfold cnt
 rw[List.range_add,List.filter_append,List.length_append,List.filter_map,List.length_map]
 congr 2
 apply List.filter_congr
 intro i _
 simp[Nat.testBit_shiftRight]
theorem cnt_mod (n k:Nat):cnt (n%2^k) k=cnt n k:=by
 unfold cnt
 congr 1
 apply List.filter_congr
 intro i hi
 have:=List.mem_range.1 hi
 rw[Nat.testBit_mod_two_pow];simp[this]
theorem elems_length (n:Nat):(Ax (n:Int)).length=cnt n 32:=by
 unfold Ax cnt
 rw[List.length_map]
 rfl
theorem pop_all :∀b:Fin 256,Dp DD (b.val:Int)=some ((cnt b.val 8:Nat):Int):=by decide+kernel
theorem pop_at {b:Nat}(h:b<256):Dp DD (b:Int)=some ((cnt b 8:Nat):Int):=pop_all ⟨b,h⟩
theorem cnt_le (n k:Nat):cnt n k≤k:=by
 unfold cnt
 exact Nat.le_trans (List.length_filter_le _ _) (by simp)
theorem wrap8 {x:Int}(h0:0≤x)(h:x<256):IntKind.u8.wrap x=x:=by
 simp[IntKind.wrap,IntKind.signed,IntKind.bits];omega
theorem OnesCount32_eq {s:Int}(h:VS s):D.K0 s=some ((Ax s).length:Int):=by
 obtain⟨n,rfl,hn⟩:=h.nat
 have s24:B5 .u32 (n:Int) 24=((n>>>24:Nat):Int):=shr_eq (n:Int) 24 h (by omega)
 have s16:B5 .u32 (n:Int) 16=((n>>>16:Nat):Int):=shr_eq (n:Int) 16 h (by omega)
 have s8:B5 .u32 (n:Int) 8=((n>>>8:Nat):Int):=shr_eq (n:Int) 8 h (by omega)
 have lt:∀k,n>>>k<4294967296:=λk=>by
  rw[Nat.shiftRight_eq_div_pow];exact Nat.lt_of_le_of_lt (Nat.div_le_self _ _) hn
 have a255:∀m:Nat,m<4294967296→iand .u32 (m:Int) 255=((m%256:Nat):Int):=λm hm=>by
  have:=Dj hm (show (255:Nat)<4294967296 by omega)
  rw[show ((255:Nat):Int)=255 from rfl] at this
  rw[this]
  congr 1
  exact Nat.and_two_pow_sub_one_eq_mod (n:=8) m
 have h24:n>>>24<256:=by rw[Nat.shiftRight_eq_div_pow];exact Nat.div_lt_of_lt_mul (by simpa using hn)
 have ec:cnt n 32=cnt (n%256) 8+cnt (n>>>8%256) 8+cnt (n>>>16%256) 8+cnt (n>>>24) 8:=by
  rw[show (32:Nat)=8+(8+(8+8)) from rfl,cnt_add n 8,cnt_add _ 8,cnt_add _ 8]
  have e1:=cnt_mod n 8;have e2:=cnt_mod (n>>>8) 8;have e3:=cnt_mod (n>>>16) 8
  simp only[show (2:Nat)^8=256 from rfl] at e1 e2 e3
  rw[e1,e2,e3]
  simp only[←Nat.shiftRight_add,Nat.reduceAdd]
  omega
 unfold D.K0
 rw[s24,s16,s8,a255 _ (lt 16),a255 _ (lt 8),a255 n hn,pop_at h24,pop_at (Nat.mod_lt _ (by omega)),pop_at (Nat.mod_lt _ (by omega)),pop_at (Nat.mod_lt _ (by omega))]
 simp only[bs]
 have c1:=cnt_le (n>>>24) 8;have c2:=cnt_le (n>>>16%256) 8;have c3:=cnt_le (n>>>8%256) 8;have c4:=cnt_le (n%256) 8
 generalize cnt (n>>>24) 8=a at*;generalize cnt (n>>>16%256) 8=b at*;generalize cnt (n>>>8%256) 8=c at*;generalize cnt (n%256) 8=d at*
 rw[wrap8 (x:=(a:Int)+b) (by omega) (by omega),wrap8 (x:=(a:Int)+b+c) (by omega) (by omega),wrap8 (x:=(a:Int)+b+c+d) (by omega) (by omega),w64 (by omega) (by omega),elems_length,ec]
 congr 1
 omega
theorem size_eq {s:Int}(h:VS s):D.P s=some ((Ax s).length:Int):=by
 unfold D.P;rw[OnesCount32_eq h];rfl
theorem DJ :∀{l m:LI},l.Nodup→(∀x∈l,x∈m)→l.length≤m.length
 |[],_,_,_=>by simp
 |x::l,m,h,hs=>by
  have h':=List.nodup_cons.1 h
  have hx:=hs x (by simp)
  have:=DJ (l:=l) (m:=m.erase x) h'.2 (λy hy=>by
   have hne:y≠x:=λe=>h'.1 (e▸hy)
   exact(List.mem_erase_of_ne hne).2 (hs y (by simp[hy])))
  rw[List.length_erase_of_mem hx] at this
  have hp:0<m.length:=List.length_pos_of_mem hx
  simp;omega
theorem Inc.nodup {l:LI}(h:Inc l):l.Nodup:=List.Pairwise.imp (λh e=>by omega) h
theorem l1All_eq (n:Nat)(hn:n≤4294967295):D.T0 (n:Int)=some ((List.range n).map Int.ofNat):=by
 unfold D.T0
 refine(BZ (λi=>((List.range i).map Int.ofNat,(i:Int))) n ((List.range n).map Int.ofNat) (by simp) (λi hi=> ?_) ?_).trans rfl
 ·simp only[dlt hi,cond_true,wq i]
  rw[A7 (by simp;omega),bs,List.range_succ,List.map_append];rfl
 ·simp only[Bm,cond_false]
def withV (bags:LL)(v:Int):LI:=((List.range bags.length).filter λb=>decide (v∈bags.getD b [])).map Int.ofNat
def Lk (links:LL)(x y:Int):Prop:=[x,y]∈links∨[y,x]∈links
structure Closed (links:LL)(sel m:LI):Prop where
 sub:∀x∈m,x∈sel
 first:∀x,sel.head? =some x→x∈m
 step:∀x∈m,∀y∈sel,Lk links x y→y∈m
def Conn (links:LL)(sel:LI):Prop:=∀m,Closed links sel m→∀x∈sel,x∈m
def LinkIn (n:Nat)(l:LI):Prop:=∃a b:Nat,l=[(a:Int),(b:Int)]∧a<b∧b<n
structure TB (g bags links:LL):Prop where
 n1:1≤bags.length
 n16:bags.length≤16
 many:links.length+1=bags.length
 lks:∀l∈links,LinkIn bags.length l
 sets:∀b∈bags,SetOf b g.length
 tree:Conn links ((List.range bags.length).map Int.ofNat)
 edges:∀u v:Nat,u<g.length→adj g u v→∃b∈bags,(u:Int)∈b∧(v:Int)∈b
 some:∀v,v<g.length→withV bags v≠[]
 conn:∀v,v<g.length→Conn links (withV bags v)
def rowF (r:LI)(u:Nat)(s:LL):LL:=(List.range r.length).foldl (λs i=>if(u:Int)<r.getD i 0 then s++[[(u:Int),r.getD i 0]] else s) s
theorem inner_edges (r:LI)(u:Nat)(s0:LL)(h:s0.length+r.length≤4294967296){step:LL×Int→Option ((LL×Int) ⊕ LL)}
  (hstep:∀s (i:Nat) (hi:i<r.length),step (s,(i:Int))=cond (decide ((u:Int)<r[i])) ((AM s [[(u:Int),r[i]]]).bind λl=>some (.inl (l,((i+1:Nat):Int)))) (some (.inl (s,((i+1:Nat):Int)))))
  (hend:∀s,step (s,(r.length:Int))=some (.inr s)):AC step (s0,0)=some (rowF r u s0)∧(rowF r u s0).length≤s0.length+r.length:=by
 have key:=loop_nat (step:=step) r.length (λs i=>(s,i)) (λs i=>if(u:Int)<r.getD i 0 then s++[[(u:Int),r.getD i 0]] else s) (λs=>s) (λi s=>s.length≤s0.length+i) s0 (by omega)
  (λs i hi hs=> ?_) (λs _=>hend s)
 ·exact key
 ·have hg:r.getD i 0=r[i]:=AY hi 0
  refine⟨?_,?_⟩
  ·rw[hstep s i hi,hg]
   by_cases hc:(u:Int)<r[i]
   ·rw[decide_eq_true hc,cond_true,A7 (by simp;omega),if_pos hc];rfl
   ·rw[decide_eq_false hc,cond_false,if_neg hc]
  ·rw[hg]
   split
   ·rw[List.length_append,List.length_singleton];omega
   ·omega
def Ca (g:LL):LL:=(List.range g.length).foldl (λs u=>rowF (row g u) u s) []
theorem DN (g:LL)(hg:GOk g):D.M g=some (Ca g):=by
 have h16:=hg.n16
 unfold D.M D.b
 have key:=loop_nat (ρ:=LL) (step:=(fun(s_482:LL×Int)=>match s_482 with|(l_485,x_490)=>(some (g.length:Int)).bind λy_731=>cond (decide (x_490<y_731)) ((AC (σ:=LL×Int) (ρ:=(LL)) (fun(s_848:LL×Int)=>match s_848 with|(l_851,x_856)=>(idx g x_490).bind λe_914=>cond (decide (x_856<(e_914.length:Int))) ((idx g x_490).bind λe_921=>(idx e_921 x_856).bind λe_927=>cond (decide (x_490<e_927)) ((idx g x_490).bind λe_934=>(idx e_934 x_856).bind λe_940=>(AM l_851 ([([x_490,e_940]:LI)]:LL)).bind λl_957=>some (.inl (l_957,(IntKind.i64.wrap (x_856+1))))) (some (.inl (l_851,(IntKind.i64.wrap (x_856+1)))))) (some (.inr l_851))) (l_485,0)).bind λl_908=>some (.inl (l_908,(IntKind.i64.wrap (x_490+1))))) (some (.inr l_485))))
  g.length (λs i=>(s,i)) (λs u=>rowF (row g u) u s) (λs=>s) (λi s=>s.length≤16*i) [] (by simp) (λs u hu hs=> ?_) (λs _=> ?_)
 ·exact congrArg (λz=>Option.bind z λl=>some l) key.1
 ·have hr:=hg.row_len hu
  obtain⟨k1,k2⟩:=inner_edges (row g u) u s (by omega) (step:=(fun(s_848:LL×Int)=>match s_848 with|(l_851,x_856)=>(idx g (u:Int)).bind λe_914=>cond (decide (x_856<(e_914.length:Int))) ((idx g (u:Int)).bind λe_921=>(idx e_921 x_856).bind λe_927=>cond (decide ((u:Int)<e_927)) ((idx g (u:Int)).bind λe_934=>(idx e_934 x_856).bind λe_940=>(AM l_851 ([([(u:Int),e_940]:LI)]:LL)).bind λl_957=>some (.inl (l_957,(IntKind.i64.wrap (x_856+1))))) (some (.inl (l_851,(IntKind.i64.wrap (x_856+1)))))) (some (.inr l_851)))) (λs i hi=>by
    simp only[BM hu,dlt hi,cond_true,AJ hi,bs,wq i]) (λs=>by simp only[BM hu,bs,Bm,cond_false])
  refine⟨?_,by omega⟩
  simp only[bs,dlt hu,cond_true,wq u]
  exact(congrArg (λz=>Option.bind z _) k1).trans rfl
 ·simp only[bs,Bm,cond_false]
theorem GOk.sh2 {g:LL}(hg:GOk g):Sh2 g:=by
 have h16:=hg.n16
 exact⟨by unfold Sh;omega,λr hr=>by have:=(hg.mem0 hr).1;unfold Sh;omega⟩
theorem Cx {g:LL}(hg:GOk g):gB g=true:=(gB_iff g).2 hg
theorem Ef (g:LL)(hg:GOk g):D.F0 g=some ((Ca g).length:Int):=by
 unfold D.F0
 rw[BE g hg.sh2,Cx hg,bs,Bool.not_true,cond_false,DN g hg];rfl
theorem nets_graph_eq (F:LI)(h:F.length≤16)(hV:∀u,u<F.length→VS (F.getD u 0)):D.B0 F=some (grow F):=by
 unfold D.B0
 refine(DQ F (λs i=>(i,s)) Ax (by omega) (λs i hi _=> ?_) (λs=> ?_)).trans rfl
 ·have:=hV i hi
  rw[AY hi] at this
  simp only[dlt hi,cond_true,AJ hi,bs,numbers_eq _ this,wq i]
 ·simp only[Bm,cond_false]
structure Fill (g:LL)(o F L:LI):Prop where
 elim:D.j1 (g.map mk) o=some (F,L)
 f:FOk F g.length
 lenL:L.length=g.length
 vsL:∀u,u<g.length→VS (L.getD u 0)
 mono:∀u w,u<g.length→adj g u w→nb F u w=true
 lat:Lat F L o g.length
 peo:PEO F o
 same:PEO (g.map mk) o→F=g.map mk
 latb:∀(j:Nat) (v:Nat),o[j]? =some (v:Int)→∀w:Nat,nb L v w=true↔(w:Int)∉o.take (j+1)∧Bhd (g.map mk) (λx=>(x:Int)∈o.take j) v w
theorem grow_len (F:LI):(grow F).length=F.length:=by simp[grow]
def RowOk (t N:LI):Prop:=(t.length=N.length∧∀k (hk:k<t.length),t[k]∈N∧t[k]∉t.take k)∧(0<t.length→t.getD 0 0=N.getD 0 0)
def cz :LI→LI→Int
 |[],[]=>0
 |[],_::_=> -1
 |_::_,[]=>1
 |a::x,b::y=>if a<b then-1 else if b<a then 1 else cz x y
def lk :Nat→LI→Int
 |0,_=>0
 |_+1,[]=>0
 |d+1,a::l=>(a+1)*33^d+lk d l
def lkey (s:Int):Int:=lk 32 (Ax s)
def skey (s:Int):Int:=((Ax s).length:Int)*33^32+lkey s
theorem C4 (g:LL)(hg:GOk g){u:Nat}(hu:u<g.length)(w:Int):D.i g (u:Int) w=some (decide (w∈row g u)):=by
 unfold D.i
 rw[BM hu,bs,B7 _ _ (hg.sh2.row hu)];rfl
def BD (f:Nat→Nat):Nat→Nat
 |0=>0
 |n+1=>BD f n+f n
theorem BW {f g:Nat→Nat}:∀{n:Nat},(∀i,i<n→f i=g i)→BD f n=BD g n
 |0,_=>rfl
 |n+1,h=>by simp only[BD];rw[BW (n:=n) (λi hi=>h i (by omega)),h n (by omega)]
theorem sumN_zero :∀n,BD (λ_=>0) n=0
 |0=>rfl
 |n+1=>by simp only[BD];rw[sumN_zero n]
def bit (b:Bool):Nat:=if b then 1 else 0
theorem Db (p:Nat→Bool):∀n,((List.range n).filter p).length=BD (λi=>bit (p i)) n
 |0=>rfl
 |n+1=>by
  rw[List.range_succ,List.filter_append,List.length_append,Db p n]
  simp only[BD,bit]
  cases h:p n<;>simp[h]
theorem sumN_tail {f : Nat → Nat} {n m : Nat} (h : n ≤ m) (hz : ∀ i, n ≤ i → f i = 0) : BD f m = BD f n := by
  induction m with
  | zero => obtain rfl : n = 0 := by omega
            rfl
  | succ m ih =>
    by_cases hm : n = m + 1
    · rw [hm]
    · simp only [BD]; rw [ih (by omega), hz m (by omega)]; rfl
theorem elems_sum {s:Int}{n:Nat}(hn:n≤32)(h:∀v,has s v=true→v<n):(Ax s).length=BD (λv=>bit (has s v)) n:=by
 unfold Ax
 rw[List.length_map,Db]
 refine sumN_tail hn (λi hi=> ?_)
 unfold bit
 cases hc:has s i
 ·rfl
 ·have:=h i hc;omega
def S2 (n:Nat)(p:Nat→Nat→Bool):Nat:=BD (λu=>BD (λw=>bit (p u w)) n) n
theorem S2_congr {n:Nat}{p q:Nat→Nat→Bool}(h:∀u w,u<n→w<n→p u w=q u w):S2 n p=S2 n q:=
 BW λu hu=>BW λw hw=>by rw[h u w hu hw]
theorem rowF_len (r:LI)(u:Nat)(s:LL):(rowF r u s).length=s.length+(r.filter λx=>decide ((u:Int)<x)).length:=by
 unfold rowF
 have key:∀i,i≤r.length→((List.range i).foldl (λs i=>if(u:Int)<r.getD i 0 then s++[[(u:Int),r.getD i 0]] else s) s).length=s.length+((r.take i).filter λx=>decide ((u:Int)<x)).length:=by
  intro i
  induction i with
  |zero=>intro _;simp
  |succ i ih=>
   intro hi
   have hi':i<r.length:=by omega
   rw[List.range_succ,List.foldl_append,List.foldl_cons,List.foldl_nil,List.take_succ_eq_append_getElem hi',List.filter_append,List.length_append,←Nat.add_assoc,←ih (by omega),AY hi']
   by_cases hc:(u:Int)<r[i]<;>simp[hc]
 have:=key r.length (Nat.le_refl _)
 rwa [List.take_length] at this
theorem edgesF_len (g:LL):(Ca g).length=BD (λu=>((row g u).filter λx=>decide ((u:Int)<x)).length) g.length:=by
 unfold Ca
 have key:∀n,((List.range n).foldl (λs u=>rowF (row g u) u s) []).length=BD (λu=>((row g u).filter λx=>decide ((u:Int)<x)).length) n:=by
  intro n
  induction n with
  |zero=>rfl
  |succ n ih=>rw[List.range_succ,List.foldl_append,List.foldl_cons,List.foldl_nil,rowF_len,ih];rfl
 exact key _
theorem Ei {s:Int}{n:Nat}(hn:n≤32)(h:∀v,has s v=true→v<n)(p:Int→Bool):((Ax s).filter p).length=BD (λv=>bit (has s v&&p (v:Int))) n:=by
 unfold Ax
 rw[List.filter_map,List.length_map,List.filter_filter,Db]
 have e:BD (λi=>bit ((p∘Int.ofNat) i&&has s i)) 32=BD (λv=>bit (has s v&&p (v:Int))) 32:=BW λi _=>by
  rw[Bool.and_comm];rfl
 rw[e]
 refine sumN_tail hn (λi hi=> ?_)
 cases hc:has s i
 ·rfl
 ·have:=h i hc;omega
theorem edges_grow {F:LI}{n:Nat}(h:FOk F n)(hn:n≤16):(Ca (grow F)).length=S2 n (λu w=>nb F u w&&decide (u<w)):=by
 rw[edgesF_len]
 unfold S2
 have hl:(grow F).length=n:=by rw[grow_len,h.len]
 rw[hl]
 refine BW λu hu=> ?_
 rw[CZ,Ei (n:=n) (by omega) (λv hv=>h.lt u v hu hv)]
 exact BW λw hw=>by
  unfold nb
  congr 2
  simp
def full (n:Nat):Int:=IntKind.u32.wrap (ishl .u32 1 (n:Int)-1)
theorem full_vs (n:Nat):VS (full n):=VS.wrap _
theorem has_full {n:Nat}(h:n≤16)(v:Nat):has (full n) v=decide (v<n):=by
 by_cases hv:v<32
 ·exact all_mask ⟨n,by omega⟩ ⟨v,hv⟩
 ·rw[D6 (full_vs n) (by omega)];symm;simp;omega
theorem nets_all_full (F:LI):D.q0 F=some (full F.length):=by
 unfold D.q0 D.e1
 have:decide ((F.length:Int)<0)=false:=by simp
 rw[this];rfl
theorem DM {g:LL}(hg:GOk g){u:Nat}(hu:u<g.length):D.m g (u:Int)=some true:=by
 have:=hg.n16
 unfold D.m D.b
 simp only[bs,CX]
 rw[w64 (by omega) (by omega)]
 simp;omega
theorem Ej {g:LL}(hg:GOk g){u v:Nat}(hu:u<g.length)(ha:adj g u v):D.S0 g (u:Int) (v:Int)=some true:=by
 unfold D.S0
 rw[BE g hg.sh2,Cx hg]
 simp only[bs,cond_true,DM hg hu,DM hg (hg.lt hu ha),C4 g hg hu]
 rw[decide_eq_true (show (v:Int)∈row g u from ha)]
section
variable {g : LL} {o : LI} (hg : GOk g) (ho : OOk g o)
include hg ho
end
end Go.Sx

namespace Go.Sx
section
variable {g : LL} {o : LI} (hg : GOk g) (ho : OOk g o)
include hg ho
def mx (f:Nat→Int):Nat→Int
 |0=>0
 |n+1=>max (mx f n) (f n)
end
end Go.Sx

namespace Go.Sx
def dg (g:LL)(s:Int)(v:Int):Int:=((Ax (iand .u32 (mk (row g v.toNat)) s)).length:Int)
theorem idx_nets {g:LL}{v:Nat}(h:v<g.length):idx (g.map mk) (v:Int)=some (mk (row g v)):=by
 rw[AJ (by simpa using h),List.getElem_map,row_eq h]
theorem elems_head {s:Int}(h:VS s){k:Nat}(hk:has s k=true)(hm:∀v,v<k→has s v=false):∃t,Ax s=(k:Int)::t:=by
 cases he:Ax s with
 |nil=>have:=(BI h).2 hk;rw[he] at this;simp at this
 |cons x t=>
  refine⟨t,?_⟩
  congr 1
  have hx:x∈Ax s:=by rw[he];simp
  obtain⟨v,_,h2,rfl⟩:=mem_elems.1 hx
  have hkm:=(BI h).2 hk
  rw[he] at hkm
  have hi:=BY s
  rw[he] at hi
  rcases List.mem_cons.1 hkm with e|e
  ·exact e.symm
  ·have:=(List.pairwise_cons.1 hi).1 _ e
   have:=hm v (by omega)
   rw[this] at h2;cases h2
theorem CV {g:LL}(hg:GOk g):D.J g=some g:=by
 have h16:=hg.n16
 unfold D.J
 refine(DQ g (λs i=>(i,s)) (λr=>r) (by omega) (λs i hi _=> ?_) (λs=> ?_)).trans (by simp)
 ·simp only[dlt hi,cond_true,AJ hi,bs,DZ _ (hg.sh2.2 _ (List.getElem_mem hi)),wq i]
 ·simp only[Bm,cond_false]
def CQ (F:LI)(K:Int):Prop:=∀u w,has K u=true→has K w=true→u≠w→nb F u w=true
def MX (F:LI)(n:Nat)(K:Int):Prop:=CQ F K∧∀w,w<n→has K w=false→∃u,has K u=true∧nb F u w=false
def In (n:Nat)(K:Int):Prop:=VS K∧∀w,has K w=true→w<n
theorem iand255 (a:Int):0≤iand .i64 a 255∧iand .i64 a 255≤255:=by
 have e:(BitVec.ofInt 64 255).toNat=255:=rfl
 have h:(BitVec.ofInt 64 a&&&BitVec.ofInt 64 255).toNat≤255:=by
  rw[BitVec.toNat_and,e];exact Nat.and_le_right
 have e2:iand .i64 a 255=(((BitVec.ofInt 64 a&&&BitVec.ofInt 64 255).toNat:Nat):Int):=by
  show IntKind.i64.wrap (((BitVec.ofInt 64 a&&&BitVec.ofInt 64 255).toNat:Nat):Int)=_
  exact w64 (by omega) (by omega)
 rw[e2];omega
theorem new_ok (code:LI)(h:∀x∈code,0≤x∧x≤255)(hl:code.length≤4096):∃z,D.v0 code=some (code,0,z)∧DK code 0:=by
 unfold D.v0
 refine⟨_,(loop_listb code (λs i=>(s,i)) (λs e=>iand .i64 (IntKind.i64.wrap ((IntKind.i64.wrap ((IntKind.i64.wrap (s*331))+(IntKind.i64.wrap e)))+11)) 1073741823) (λs=>s) (λ_=>True) _ trivial (λs i hi _=>⟨?_,trivial⟩) (λs _=> ?_)).trans rfl,h,hl,by omega,by omega⟩
 ·simp only[dlt hi,cond_true,AJ hi,bs,wq i]
 ·simp only[Bm,cond_false]
def Dw {α:Type}(b:LI)(P:α→Prop)(e:Option (α×LI×Int×Int)):Prop:=∃y,e=some y∧(P y.1∧y.2.1=b∧DK b y.2.2.1)
theorem Dw.then {α β:Type}{b:LI}{P:α→Prop}{e:Option (α×LI×Int×Int)}{k:α×LI×Int×Int→Option β}{Q:β→Prop}(h:Dw b P e)
  (hk:∀a i z,P a→DK b i→∃y,k (a,b,i,z)=some y∧Q y):∃y,e.bind k=some y∧Q y:=by
 obtain⟨⟨a,b',i,z⟩,rfl,h1,h2,h3⟩:=h
 dsimp only at h1 h2 h3
 subst h2
 exact hk a i z h1 h3
theorem DC {b:LI}{i:Int}(h:DK b i)(z:Int):Dw b (λr=>0≤r∧r≤255) (D.z b i z):=by
 obtain⟨h1,h2,h3,h4⟩:=h
 unfold D.z
 by_cases hi:i<b.length
 ·simp only[hi,decide_true,cond_true,Dg h3 hi,bs]
  rw[w64 (x:=i+1) (by omega) (by omega)]
  exact⟨_,rfl,iand255 _,rfl,h1,h2,by dsimp only;omega,by dsimp only;omega⟩
 ·simp only[hi,decide_false,cond_false]
  exact⟨_,rfl,iand255 _,rfl,h1,h2,h3,h4⟩
theorem CY {b:LI}{i:Int}(h:DK b i)(z n:Int):Dw b (λr=>0≤r∧(0<n→r<n)) (D.a b i z n):=by
 unfold D.a
 by_cases h0:n≤0
 ·simp only[h0,decide_true,cond_true]
  exact⟨_,rfl,⟨by dsimp only;omega,λ_=>by omega⟩,rfl,h⟩
 ·have hn0:(n==0)=false:=by simp;omega
  simp only[h0,decide_false,cond_false,hn0]
  by_cases h1:n≤256
  ·simp only[h1,decide_true,cond_true]
   refine(DC h z).then λr i1 z1 hr hk=> ?_
   have:=tmod_rng (x:=r) (n:=n) hr.1 (by omega)
   exact⟨_,rfl,⟨this.1,λ_=>this.2⟩,rfl,hk⟩
  ·simp only[h1,decide_false,cond_false]
   refine(DC h z).then λr i1 z1 hr hk=> ?_
   refine(DC hk z1).then λr2 i2 z2 hr2 hk=> ?_
   refine(DC hk z2).then λr3 i3 z3 hr3 hk=> ?_
   refine(DC hk z3).then λr4 i4 z4 hr4 hk=> ?_
   dsimp only
   rw[w64 (x:=r*16777216) (by omega) (by omega),w64 (x:=r2*65536) (by omega) (by omega),w64 (x:=r3*256) (by omega) (by omega),w64 (x:=r*16777216+r2*65536) (by omega) (by omega),w64 (x:=r*16777216+r2*65536+r3*256) (by omega) (by omega),w64 (x:=r*16777216+r2*65536+r3*256+r4) (by omega) (by omega)]
   have:=tmod_rng (x:=r*16777216+r2*65536+r3*256+r4) (n:=n) (by omega) (by omega)
   exact⟨_,rfl,⟨this.1,λ_=>this.2⟩,rfl,hk⟩
theorem Bx {b:LI}{i:Int}(h:DK b i)(z n:Int)(hn:0<n):Dw b (λr=>0≤r∧r<n) (D.a b i z n):=by
 obtain⟨y,e,h1,h2⟩:=CY h z n
 exact⟨y,e,⟨h1.1,h1.2 hn⟩,h2⟩
theorem Ct {b:LI}{i:Int}(h:DK b i)(z n:Int):Dw b (λ_:Bool=>True) (D.l b i z n):=by
 unfold D.l
 exact(CY h z n).then λr i1 z1 _ hk=>⟨_,rfl,trivial,rfl,hk⟩
theorem from_dw {b:LI}{i:Int}(h:DK b i)(z m n:Int):Dw b (λ_:Int=>True) (D.n0 b i z m n):=by
 unfold D.n0
 exact(CY h z _).then λr i1 z1 _ hk=>⟨_,rfl,trivial,rfl,hk⟩
theorem odd_dw {b:LI}{i:Int}(h:DK b i)(z:Int):Dw b (λ_:Int=>True) (D.C0 b i z):=by
 unfold D.C0
 refine(Bx h z 10 (by omega)).then λr i1 z1 hr hk=> ?_
 rw[Dg hr.1 (by simpa using hr.2),bs]
 exact⟨_,rfl,trivial,rfl,hk⟩
theorem min_ok (a b:Int):∃m,D.O a b=some m:=by
 unfold D.O
 by_cases h:a<b
 ·exact⟨a,by simp[h]⟩
 ·exact⟨b,by simp[h]⟩
theorem num_dw {b:LI}{i:Int}(h:DK b i)(z n:Int):Dw b (λ_:Int=>True) (D.c0 b i z n):=by
 unfold D.c0
 refine(Ct h z 10).then λr i1 z1 _ hk=> ?_
 dsimp only
 cases r
 ·simp only[cond_false]
  refine(Ct hk z1 2).then λr i1 z1 _ hk=> ?_
  dsimp only
  cases r
  ·simp only[cond_false]
   exact(CY hk z1 _).then λr i1 z1 _ hk=>⟨_,rfl,trivial,rfl,hk⟩
  ·obtain⟨m,e⟩:=min_ok n 4
   simp only[cond_true,e,bs]
   exact(CY hk z1 _).then λr i1 z1 _ hk=>⟨_,rfl,trivial,rfl,hk⟩
 ·simp only[cond_true]
  refine(odd_dw hk z1).then λq i1 z1 _ hk=> ?_
  refine(Bx hk z1 4 (by omega)).then λr i1 z1 hr hk=> ?_
  dsimp only
  rw[Dg hr.1 (by simpa using hr.2),bs]
  exact⟨_,rfl,trivial,rfl,hk⟩
theorem DL (n:Nat)(hn:n≤100):D.K (n:Int)=some (List.replicate n []):=by
 unfold D.K
 refine(BZ (λi=>((i:Int),List.replicate i [])) n (List.replicate n []) (by simp) (λi hi=> ?_) ?_).trans rfl
 ·simp only[dlt hi,cond_true,wq i]
  rw[A7 (by simp;omega),bs,←List.replicate_succ']
 ·simp only[Bm,cond_false]
theorem DY :D.V=D.j:=rfl
theorem Of_deep (n:Nat)(h1:1≤n)(h16:n≤16):D.X0 (n:Int)=some (List.replicate n [],true):=by
 unfold D.X0
 have e1:(decide ((1:Int)≤(n:Int))&&decide ((n:Int)≤16))=true:=by simp;omega
 rw[CX,bs,e1,Bool.not_true,cond_false,DL n (by omega)];rfl
theorem Path_deep (n:Nat)(h1:1≤n)(h16:n≤16):∃y,D.f0 (n:Int)=some y∧(GOk y.1∧y.1.length=n∧y.2=true):=by
 unfold D.f0
 rw[Of_deep n h1 h16,bs]
 simp only[Bool.and_true]
 refine Bn (λs=>∃v:Nat,s.1=(v:Int)∧1≤v∧v≤n∧GOk s.2∧s.2.length=n) (λs=>n-s.1.toNat) (λr=>GOk r∧r.length=n) ?_ ⟨1,rfl,by omega,h1,GOk.empty h1 h16,by simp⟩ ?_
 ·rintro⟨_,l⟩ ⟨v,rfl,hv1,hvn,hg,hl⟩
  dsimp only at hg hl ⊢
  by_cases hv:v<n
  ·obtain⟨g',k1,k2,k3,_⟩:=Cr hg (u:=v-1) (v:=v) (by omega) (by omega) (by omega)
   have e:IntKind.i64.wrap ((v:Int)-1)=((v-1:Nat):Int):=by rw[w64 (by omega) (by omega)];omega
   simp only[dlt hv,cond_true,e,DY,k1,bs,wq v]
   exact⟨_,rfl,⟨v+1,rfl,by omega,by omega,k2,by dsimp only;omega⟩,by dsimp only;omega⟩
  ·obtain rfl:v=n:=by omega
   simp only[Bm,cond_false]
   exact⟨_,rfl,hg,hl⟩
 ·rintro r ⟨hg,hl⟩
  exact⟨_,rfl,hg,hl,rfl⟩
theorem Loop_deep (n:Nat)(h1:3≤n)(h16:n≤16):∃y,D.a1 (n:Int)=some y∧(GOk y.1∧y.1.length=n):=by
 unfold D.a1
 refine Co _ (Path_deep n (by omega) h16) ?_
 rintro⟨g,t⟩ ⟨hg,hl,rfl⟩
 dsimp only at hg hl ⊢
 have e3:decide ((n:Int)<3)=false:=by simp;omega
 obtain⟨g',k1,k2,k3,_⟩:=Cr hg (u:=0) (v:=n-1) (by omega) (by omega) (by omega)
 have e:IntKind.i64.wrap ((n:Int)-1)=((n-1:Nat):Int):=by rw[w64 (by omega) (by omega)];omega
 rw[show ((0:Nat):Int)=0 from rfl] at k1
 simp only[Bool.not_true,Bool.false_or,e3,cond_false,DY,e,k1,bs]
 exact⟨_,rfl,k2,by dsimp only;omega⟩
theorem DrawOf_deep {b:LI}{i:Int}(h:DK b i)(z:Int)(n:Nat)(h1:1≤n)(h16:n≤16):Dw b (λg=>GOk g∧g.length=n) (D.V0 b i z (n:Int)):=by
 unfold D.V0
 rw[DL n (by omega),bs]
 refine(Bx h z 3 (by omega)).then λq i0 z0 hq k2=> ?_
 dsimp only
 refine Bn (λs=>∃v:Nat,s.1=(v:Int)∧1≤v∧v≤n∧s.2.1=b∧DK b s.2.2.1∧GOk s.2.2.2.2∧s.2.2.2.2.length=n) (λs=>n-s.1.toNat)
  (λr=>r.2.1=b∧DK b r.2.2.1∧GOk r.1∧r.1.length=n) ?_ ⟨1,rfl,by omega,h1,rfl,k2,GOk.empty h1 h16,by simp⟩ ?_
 ·rintro⟨_,b2,i,z,g⟩ ⟨v,rfl,g1,g2,rfl,hk,hg,hl⟩
  dsimp only at hk hg hl ⊢
  by_cases hv:v<n
  ·simp only[dlt hv,cond_true]
   refine Bn (λs=>∃u:Nat,s.1=(u:Int)∧u≤v∧s.2.1=b2∧DK b2 s.2.2.1∧GOk s.2.2.2.2∧s.2.2.2.2.length=n) (λs=>v-s.1.toNat)
    (λr=>r.1=b2∧DK b2 r.2.1∧GOk r.2.2.2∧r.2.2.2.length=n) ?_ ⟨0,rfl,by omega,rfl,hk,hg,hl⟩ ?_
   ·rintro⟨_,b2,i,z,g⟩ ⟨u,rfl,g3,rfl,hk,hg,hl⟩
    dsimp only at hk hg hl ⊢
    by_cases hu:u<v
    ·simp only[dlt hu,cond_true]
     refine(Bx hk z 4 (by omega)).then λt i3 z3 ht hk'=> ?_
     dsimp only
     by_cases hc:t<IntKind.i64.wrap (1+q)
     ·obtain⟨g',k1,k3,k4,_⟩:=Cr hg (u:=u) (v:=v) (by omega) (by omega) (by omega)
      simp only[hc,decide_true,cond_true,DY,k1,bs,wq u]
      exact⟨_,rfl,⟨u+1,rfl,by omega,rfl,hk',k3,by dsimp only;omega⟩,by dsimp only;omega⟩
     ·simp only[hc,decide_false,cond_false,wq u]
      exact⟨_,rfl,⟨u+1,rfl,by omega,rfl,hk',hg,hl⟩,by dsimp only;omega⟩
    ·obtain rfl:u=v:=by omega
     simp only[Bm,cond_false]
     exact⟨_,rfl,rfl,hk,hg,hl⟩
   ·rintro⟨b2,i3,z3,g⟩ ⟨rfl,hk',hg',hl'⟩
    dsimp only at hk' hg' hl' ⊢
    simp only[wq v]
    exact⟨_,rfl,⟨v+1,rfl,by omega,by omega,rfl,hk',hg',hl'⟩,by dsimp only;omega⟩
  ·obtain rfl:v=n:=by omega
   simp only[Bm,cond_false]
   exact⟨_,rfl,rfl,hk,hg,hl⟩
 ·rintro⟨g,b2,i3,z3⟩ ⟨rfl,hk,hg,hl⟩
  exact⟨_,rfl,⟨hg,hl⟩,rfl,hk⟩
theorem Draw_deep {b:LI}{i:Int}(h:DK b i)(z:Int):Dw b (λg=>GOk g∧g.length≤7) (D.Y0 b i z):=by
 unfold D.Y0
 refine(Bx h z 6 (by omega)).then λq i0 z0 hq hk=> ?_
 dsimp only
 by_cases h0:q=0
 ·have e0:(q==0)=true:=by simp[h0]
  simp only[e0,cond_true]
  refine(Bx hk z0 4 (by omega)).then λr i1 z1 hr hk=> ?_
  dsimp only
  have e:IntKind.i64.wrap (3+r)=((3+r.toNat:Nat):Int):=by rw[w64 (by omega) (by omega)];omega
  rw[e]
  refine Co _ (Loop_deep (3+r.toNat) (by omega) (by omega)) ?_
  rintro⟨g,t⟩ ⟨hg,hl⟩
  exact⟨_,rfl,⟨hg,by dsimp only at hl ⊢;omega⟩,rfl,hk⟩
 ·have e0:(q==0)=false:=by simp[h0]
  simp only[e0,cond_false]
  by_cases h1:q=1
  ·have e1:(q==1)=true:=by simp[h1]
   simp only[e1,cond_true]
   refine(Bx hk z0 6 (by omega)).then λr i1 z1 hr hk=> ?_
   dsimp only
   have e:IntKind.i64.wrap (1+r)=((1+r.toNat:Nat):Int):=by rw[w64 (by omega) (by omega)];omega
   rw[e]
   refine Co _ (Path_deep (1+r.toNat) (by omega) (by omega)) ?_
   rintro⟨g,t⟩ ⟨hg,hl,_⟩
   exact⟨_,rfl,⟨hg,by dsimp only at hl ⊢;omega⟩,rfl,hk⟩
  ·have e1:(q==1)=false:=by simp[h1]
   simp only[e1,cond_false]
   refine(Bx hk z0 7 (by omega)).then λr i1 z1 hr hk=> ?_
   dsimp only
   have e:IntKind.i64.wrap (1+r)=((1+r.toNat:Nat):Int):=by rw[w64 (by omega) (by omega)];omega
   rw[e]
   refine(DrawOf_deep hk z1 (1+r.toNat) (by omega) (by omega)).then λg i2 z2 hg hk=> ?_
   exact⟨_,rfl,⟨hg.1,by have:=hg.2;dsimp only;omega⟩,rfl,hk⟩
def Few (g:LL):Prop:=g.length≤17∧∀r∈g,r.length≤17
theorem Few.sh2 {g:LL}(h:Few g):Sh2 g:=⟨by have:=h.1;unfold Sh;omega,λr hr=>by have:=h.2 r hr;unfold Sh;omega⟩
theorem GOk.few {g:LL}(hg:GOk g):Few g:=by
 have h16:=hg.n16
 exact⟨by omega,λr hr=>by have:=(hg.mem0 hr).1;omega⟩
theorem Few.set {g:LL}(h:Few g)(k:Nat){r:LI}(hr:r.length≤17):Few (g.set k r):=by
 refine⟨by have:=h.1;simpa using this,λx hx=> ?_⟩
 rcases List.mem_or_eq_of_mem_set hx with hx|rfl
 ·exact h.2 x hx
 ·exact hr
theorem DrawAny_dw {b:LI}{i:Int}(h:DK b i)(z:Int):Dw b Few (D.D0 b i z):=by
 unfold D.D0
 refine(Draw_deep h z).then λg i0 z0 hg hk=> ?_
 have hn1:=hg.1.n1
 have hf:=hg.1.few
 refine(Ct hk z0 12).then λt i1 z1 _ hk=> ?_
 dsimp only
 cases t
 ·exact⟨_,rfl,hf,rfl,hk⟩
 ·simp only[cond_true]
  refine(Bx hk z1 g.length (by omega)).then λv i2 z2 hv hk=> ?_
  refine(Bx hk z2 5 (by omega)).then λq i3 z3 hq hk=> ?_
  dsimp only
  have hrow:=Dg (xs:=g) hv.1 hv.2
  have hmem:g[v.toNat]'(by omega)∈g:=List.getElem_mem _
  have hrl:=(hg.1.mem0 hmem).1
  rcases(show q=0∨q=1∨q=2∨q=3∨q=4 by omega) with rfl|rfl|rfl|rfl|rfl
  ·simp only[hrow,bs,show ((0:Int)==0)=true from rfl,cond_true]
   refine Co (λy=>Few y.1∧y.2.1=b∧DK b y.2.2.1) ?_ (λy hy=>⟨_,rfl,hy⟩)
   refine(num_dw hk z3 16).then λw i4 z4 _ hk=> ?_
   dsimp only
   rw[A7 (by simp;omega),bs]
   exact⟨_,rfl,hf.set _ (by simp;omega),rfl,hk⟩
  ·simp only[hrow,bs,show ((1:Int)==0)=false from rfl,show ((1:Int)==1)=true from rfl,cond_true,cond_false]
   exact⟨_,rfl,hf.set _ (by simp),rfl,hk⟩
  ·simp only[show ((2:Int)==0)=false from rfl,show ((2:Int)==1)=false from rfl,show ((2:Int)==2)=true from rfl,cond_true,cond_false]
   refine(Bx hk z3 2 (by omega)).then λw i4 z4 hw hk=> ?_
   dsimp only
   have e:IntKind.i64.wrap (16+w)=((16+w.toNat:Nat):Int):=by rw[w64 (by omega) (by omega)];omega
   rw[e,DL _ (by omega),bs]
   exact⟨_,rfl,⟨by simp;omega,λr hr=>by have:=List.eq_of_mem_replicate hr;subst this;simp⟩,rfl,hk⟩
  ·simp only[show ((3:Int)==0)=false from rfl,show ((3:Int)==1)=false from rfl,show ((3:Int)==2)=false from rfl,show ((3:Int)==3)=true from rfl,cond_true,cond_false]
   exact⟨_,rfl,⟨by simp,by simp⟩,rfl,hk⟩
  ·simp only[hrow,bs,show ((4:Int)==0)=false from rfl,show ((4:Int)==1)=false from rfl,show ((4:Int)==2)=false from rfl,show ((4:Int)==3)=false from rfl,show ((4:Int)==4)=true from rfl,cond_true,cond_false]
   exact⟨_,rfl,hf.set _ (by simp),rfl,hk⟩
theorem DrawOrder_dw {b:LI}{i:Int}(h:DK b i)(z:Int){g:LL}(hg:Few g):Dw b (λo:LI=>o.length≤17) (D.r0 b i z g):=by
 have hgl:=hg.1
 unfold D.r0
 rw[l1All_eq g.length (by omega),bs]
 refine Bn (λs=>s.1.length+s.2.1.length=g.length∧s.2.2.1=b∧DK b s.2.2.2.1) (λs=>s.1.length) (λr=>r.1.length≤17∧r.2.1=b∧DK b r.2.2.1) ?_ ⟨by simp,rfl,h⟩ ?_
 ·rintro⟨l,o,b2,i,z⟩ ⟨hl,rfl,hk⟩
  dsimp only at hl hk ⊢
  by_cases h0:0<l.length
  ·have e:decide ((0:Int)<(l.length:Int))=true:=by simp;omega
   simp only[e,cond_true]
   refine(Bx hk z l.length (by omega)).then λv i2 z2 hv hk=> ?_
   dsimp only
   obtain⟨k,rfl⟩:∃k:Nat,v=k:=⟨v.toNat,by omega⟩
   have hkl:k<l.length:=by omega
   rw[AJ hkl,bs,A7 (by simp;omega),bs,Cz (by omega),bs,wq k,C1 (by omega),bs,
    DZ _ (show Sh (l.take k) by unfold Sh;rw[List.length_take];omega),bs,A7 (by simp;omega),bs]
   refine⟨_,rfl,⟨by simp;omega,rfl,hk⟩,by simp;omega⟩
  ·have e:decide ((0:Int)<(l.length:Int))=false:=decide_eq_false (by omega)
   simp only[e,cond_false]
   exact⟨_,rfl,by dsimp only;omega,rfl,hk⟩
 ·rintro⟨o,b2,i2,z2⟩ ⟨ho,rfl,hk⟩
  dsimp only at ho hk ⊢
  refine(Ct hk z2 15).then λt i3 z3 _ hk=> ?_
  dsimp only
  by_cases hc:(t&&decide ((0:Int)<(o.length:Int)))=true
  ·rw[hc,cond_true]
   have h0:0<o.length:=by simp at hc;omega
   refine(Bx hk z3 o.length (by omega)).then λv i4 z4 hv hk=> ?_
   refine(from_dw hk z4 (-1) 7).then λw i5 z5 _ hk=> ?_
   dsimp only
   rw[Dg hv.1 hv.2,bs]
   exact⟨_,rfl,by simpa using ho,rfl,hk⟩
  ·rw[Bool.not_eq_true] at hc
   rw[hc,cond_false]
   exact⟨_,rfl,ho,rfl,hk⟩
theorem elems_mk {n:Nat}{x:LI}(hn:n≤16)(hi:Inc x)(hr:∀z∈x,0≤z∧z<n):Ax (mk x)=x:=by
 have h32:∀z∈x,0≤z∧z<32:=λz hz=>by have:=hr z hz;omega
 refine Inc.ext (BY _) hi (λz=> ?_)
 rw[mem_elems]
 constructor
 ·rintro⟨v,_,h,rfl⟩
  rw[Do h32] at h
  exact of_decide_eq_true h
 ·intro hz
  have:=h32 z hz
  refine⟨z.toNat,by omega,?_,by omega⟩
  rw[Do h32,show ((z.toNat:Nat):Int)=z by omega]
  exact decide_eq_true hz
def Cq (g:LL)(x:LI):Prop:=∀u w:Nat,(u:Int)∈x→(w:Int)∈x→u≠w→adj g u w
structure GC (g:LL)(l:LI):Prop where
 up:l.Pairwise λa b=>lkey a<lkey b
 mem:∀K,K∈l↔In g.length K∧MX (g.map mk) g.length K
def mis (F:LI)(n:Nat)(S:Int):Nat:=S2 n (λu w=>has S u&&(has S w&&(decide (w<u)&& !nb F w u)))
def cd (F:LI)(s v:Int):Int:=((Ax (iand .u32 (F.getD v.toNat 0) s)).length:Int)
def cf (n:Nat)(F:LI)(s v:Int):Int:=(mis F n (iand .u32 (F.getD v.toNat 0) s):Int)
section
variable {g : LL} (hg : GOk g)
include hg
end
end Go.Sx

namespace Go.Sx
theorem vset_has_eq {s:Int}(h:VS s){v:Nat}(hv:v<32):D.W0 s (v:Int)=some (has s v):=by
 unfold D.W0
 have:decide ((v:Int)<0)=false:=by simp
 rw[this,cond_false,bitAt_eq h hv]
theorem spec_SetOk_eq (g:LL)(s:LI)(h:Sh2 g)(hs:Sh s):D.P0 g s=some (gB g&&C7 s g.length):=by
 unfold D.P0 D.b
 rw[BE g h,bs]
 cases gB g
 ·rfl
 ·have:=h.1
  unfold Sh at this
  rw[cond_true,bs,l1Set_eq s _ hs (by omega) (by omega)];rfl
def ch (cs:LI)(i v:Nat):Bool:=has (cs.getD i 0) v
def Opn (cs:LI)(p:Int)(v:Nat):Prop:=(∃i,i<cs.length∧has p i=true∧ch cs i v=true)∧∃i,i<cs.length∧has p i=false∧ch cs i v=true
def Ft (cs:LI)(p:Int)(k:Nat):Prop:=k<cs.length∧has p k=false∧∀v,Opn cs p v→ch cs k v=true
def Goes (cs:LI):Int→LI→Prop
 |p,[]=>∀i,i<cs.length→has p i=true
 |p,x::l=>∃k:Nat,x=(k:Int)∧Ft cs p k∧Goes cs (ior .u32 p (ishl .u32 1 (k:Int))) l
section
variable {cs : LI} (hvs : ∀ s ∈ cs, VS s) (hm : cs.length ≤ 16)
include hvs hm
end
end Go.Sx

namespace Go.Sx
section
variable {g : LL} (hg : GOk g)
include hg
end
end Go.Sx

namespace Go.Sx
structure Iv (g:LL)(L R:Nat→Int):Prop where
 le:∀v,v<g.length→L v≤R v
 ad:∀u v,u<g.length→v<g.length→(adj g u v↔u≠v∧L u≤R v∧L v≤R u)
section
variable {g : LL} (hg : GOk g)
include hg
variable {L R : Nat → Int} (hI : Iv g L R)
include hI
end
end Go.Sx

namespace Go.Sx
structure Un (cs:LI)(m:Nat)(U:LI):Prop where
 len:U.length=2^m
 vs:∀b,b<2^m→VS (U.getD b 0)
 hs:∀b,b<2^m→∀v,has (U.getD b 0) v=true↔∃i,i<m∧b.testBit i=true∧ch cs i v=true
section
variable {cs U : LI} (hs : ∀ s ∈ cs, VS s) (hm : cs.length ≤ 16) (hU : Un cs cs.length U)
include hs hm hU
end
end Go.Sx

namespace Go.Sx
section
variable {F : LI} {n : Nat} (hF : FOk F n) (h1 : 1 ≤ n) (h16 : n ≤ 16) {L : Int} (hL : VS L)
include hF h1 h16 hL
end
end Go.Sx

namespace Go.Sx
section
variable {g : LL} {o : LI} (hg : GOk g) (ho : OOk g o)
include hg ho
end
end Go.Sx

namespace Go.Sx
abbrev Pr :=Int×Int×Int
def joinF (n:Nat)(F:LI)(v:Nat)(S:Int):LI:=(List.range n).map λu=>ior .u32 (ior .u32 (F.getD u 0) (if u=v then S else 0)) (if has S u then ishl .u32 1 (v:Int) else 0)
theorem nets_join_ok {n:Nat}(hn:n≤16){X:LI}(hl:X.length=n)(hV:∀u,u<n→VS (X.getD u 0)){v t:Nat}(hv:v<n)(ht:t<n)(hvt:v≠t):
  ∃y,D.o0 X (v:Int) (t:Int)=some y∧(y.length=n∧(∀u,u<n→VS (y.getD u 0))∧∀u w,u<n→nb y u w=(nb X u w||(decide (u=v)&&decide (w=t))||(decide (u=t)&&decide (w=v)))):=by
 have hx:∀k,k<n→idx X (k:Int)=some (X.getD k 0):=λk hk=>by rw[AJ (by omega),AY (by omega)]
 refine⟨(X.set v (ior .u32 (X.getD v 0) (ishl .u32 1 (t:Int)))).set t (ior .u32 (X.getD t 0) (ishl .u32 1 (v:Int))),?_,by simp[hl],λu hu=> ?_,λu w hu=> ?_⟩
 ·unfold D.o0
  have e1:idx (X.set v (ior .u32 (X.getD v 0) (ishl .u32 1 (t:Int)))) (t:Int)=some (X.getD t 0):=by
   rw[AJ (by simp;omega),List.getElem_set_ne hvt]
   exact congrArg some (AY (by omega) 0).symm
  simp only[hx v hv,bs,C2,Int.toNat_natCast,e1]
 ·rw[List.getD_eq_getElem?_getD,List.getElem?_set]
  by_cases h:t=u
  ·rw[if_pos h,if_pos (by simp;omega)];exact VS.ior _ _
  ·rw[if_neg h,List.getElem?_set]
   by_cases h2:v=u
   ·rw[if_pos h2,if_pos (by omega)];exact VS.ior _ _
   ·rw[if_neg h2,←List.getD_eq_getElem?_getD];exact hV u hu
 ·unfold nb
  rw[List.getD_eq_getElem?_getD,List.getElem?_set]
  by_cases h:t=u
  ·subst h
   rw[if_pos rfl,if_pos (by simp;omega),Option.getD_some,Df (hV _ hu) (VS.ishl _ _),CT (by omega)]
   have:decide (t=v)=false:=decide_eq_false (λe=>hvt e.symm)
   rw[this];simp
  ·rw[if_neg h,List.getElem?_set]
   have e2:decide (u=t)=false:=decide_eq_false (λe=>h e.symm)
   by_cases h2:v=u
   ·subst h2
    rw[if_pos rfl,if_pos (by omega),Option.getD_some,Df (hV _ hu) (VS.ishl _ _),CT (by omega),e2];simp
   ·rw[if_neg h2,←List.getD_eq_getElem?_getD,e2,decide_eq_false (λe=>h2 e.symm)];simp
def pl (o:LI)(v:Nat):Nat:=o.idxOf (v:Int)
def Cn (ad:Nat→Nat→Prop)(S:Nat→Prop)(x y:Nat):Prop:=∀T:Nat→Prop,T x→(∀a b,T a→ad a b→S b→T b)→T y
section
variable {ad : Nat → Nat → Prop} {S S' : Nat → Prop} {x y z : Nat}
end
def Joint (ad:Nat→Nat→Prop)(S:Nat→Prop):Prop:=∀x y,S x→S y→Cn ad S x y
abbrev Ad (F:LI)(a b:Nat):Prop:=nb F a b=true
abbrev El (s:Int)(x:Nat):Prop:=has s x=true
abbrev Mn (s:Int)(v x:Nat):Prop:=has s x=true∧x≠v
section
variable {F : LI} {n : Nat} (hn : n ≤ 16) (hF : FOk F n)
include hn hF
end
end Go.Sx

namespace Go.Sx
def Way (ad:Nat→Nat→Prop):List Nat→Prop
 |[]=>True
 |[_]=>True
 |a::b::l=>ad a b∧Way ad (b::l)
structure Hole (ad:Nat→Nat→Prop)(c:List Nat):Prop where
 len:4≤c.length
 nd:c.Nodup
 step:∀i (h:i+1<c.length),ad c[i] c[i+1]
 close:ad (c[c.length-1]'(by omega)) (c[0]'(by omega))
 no:∀i j (_:i+1<j) (hj:j<c.length),¬(i=0∧j=c.length-1)→¬ad (c[i]'(by omega)) c[j]
def NoHole (ad:Nat→Nat→Prop)(X:Nat→Prop):Prop:=∀c,Hole ad c→¬∀x∈c,X x
section
variable {ad : Nat → Nat → Prop} (hs : ∀ a b, ad a b → ad b a) (hi : ∀ a, ¬ ad a a)
include hs hi
end
end Go.Sx

namespace Go.Sx
section
variable {g : LL} (hg : GOk g)
include hg
end
end Go.Sx

namespace Go.Sx
section
variable {g : LL} (hg : GOk g)
include hg
end
end Go.Sx

namespace Go.Sx
def Nr (ad:Nat→Nat→Prop)(v:Nat):Nat→Nat→Prop
 |0,_=>False
 |k+1,u=>u=v∨∃w,Nr ad v k w∧ad w u
section
variable {g : LL} (hg : GOk g)
include hg
end
end Go.Sx

namespace Go.Sx
section
variable {g : LL} (hg : GOk g)
include hg
end
end Go.Sx

namespace Go.Sx
section
variable {g : LL} (hg : GOk g) {c : List Nat} (hH : Hole (adj g) c) (hlt : ∀ x ∈ c, x < g.length)
include hg hH hlt
end
end Go.Sx

namespace Go.Sx
structure Rd (ad:Nat→Nat→Prop)(c:List Nat):Prop where
 len:3≤c.length
 nd:c.Nodup
 step:∀i (h:i+1<c.length),ad c[i] c[i+1]
 close:ad (c[c.length-1]'(by omega)) (c[0]'(by omega))
section
variable {g : LL} (hg : GOk g) {c : List Nat} (hH : Rd (adj g) c) (hlt : ∀ x ∈ c, x < g.length)
include hg hH hlt
end
end Go.Sx

namespace Go.Sx
section
variable {F : LI} {n : Nat} (hF : FOk F n) (h1 : 1 ≤ n) (h16 : n ≤ 16) {L : Int}
include hF h1 h16
end
end Go.Sx

namespace Go.Sx
def Gm (E:Nat→Nat→Prop)(a b c d:Nat):Prop:=E c d∧((a=c∧¬E b d∧b≠d)∨(b=d∧¬E a c∧a≠c))
def Kl (E:Nat→Nat→Prop)(a b c d:Nat):Prop:=∀T:Nat→Nat→Prop,T a b→(∀p q r s,T p q→Gm E p q r s→T r s)→T c d
section
variable {E : Nat → Nat → Prop} (hs : ∀ a b, E a b → E b a) (hi : ∀ a, ¬ E a a)
include hs
include hi
end
section
variable {E : Nat → Nat → Prop} (hs : ∀ a b, E a b → E b a) (hi : ∀ a, ¬ E a a)
include hs hi
end
end Go.Sx

namespace Go.Sx
section
variable {E : Nat → Nat → Prop} (hs : ∀ a b, E a b → E b a) (hi : ∀ a, ¬ E a a)
include hs
include hi
end
end Go.Sx

namespace Go.Sx
def AdW (g:LL)(all:Int)(a b:Nat):Prop:=adj g a b∧has all b=true
def Dst (g:LL)(all:Int)(v j u:Nat):Prop:=Nr (AdW g all) v (j+1) u∧¬Nr (AdW g all) v j u
section
variable {g : LL} (hg : GOk g)
include hg
end
end Go.Sx

namespace Go.Sx
def Av (ad:Nat→Nat→Prop)(X:Nat→Prop)(c z:Nat):Prop:=X z∧z≠c∧¬ad c z
def Apt (ad:Nat→Nat→Prop)(X:Nat→Prop)(a b c:Nat):Prop:=
 X a∧X b∧X c∧a≠b∧a≠c∧b≠c∧¬ad a b∧¬ad a c∧¬ad b c∧Cn ad (Av ad X c) a b∧Cn ad (Av ad X b) a c∧Cn ad (Av ad X a) b c
def Ape (ad:Nat→Nat→Prop)(X S:Nat→Prop)(a b:Nat):Prop:=
 X a∧X b∧a≠b∧¬ad a b∧(∃k,S k∧Cn ad (Av ad X b) a k)∧∃k,S k∧Cn ad (Av ad X a) b k
structure Rp (ad:Nat→Nat→Prop)(X:Nat→Prop)(L R:Nat→Int):Prop where
 le:∀v,X v→L v≤R v
 ad:∀u v,X u→X v→u≠v→(ad u v↔L u≤R v∧L v≤R u)
section
variable {ad : Nat → Nat → Prop} (hs : ∀ a b, ad a b → ad b a)
include hs
end
end Go.Sx

namespace Go.Sx
section
variable {ad : Nat → Nat → Prop}
variable (hs : ∀ a b, ad a b → ad b a) (hi : ∀ a, ¬ ad a a)
include hs
include hi
end
section
variable {ad : Nat → Nat → Prop} (hs : ∀ a b, ad a b → ad b a) (hi : ∀ a, ¬ ad a a)
include hs
include hi
end
end Go.Sx

namespace Go.Sx
section
variable {g : LL} (hg : GOk g)
include hg
end
end Go.Sx

namespace Go.Sx
section
variable {g : LL} (hg : GOk g)
include hg
end
end Go.Sx

namespace Go.Sx
section
variable {g : LL} (hg : GOk g)
include hg
end
end Go.Sx

namespace Go.Sx
section
variable {ad : Nat → Nat → Prop} (hs : ∀ a b, ad a b → ad b a) (hi : ∀ a, ¬ ad a a)
include hs hi
end
end Go.Sx

namespace Go.Sx
section
variable {ad : Nat → Nat → Prop} {X : Nat → Prop} {L R : Nat → Int} (h : Rp ad X L R)
include h
end
end Go.Sx

namespace Go.Sx
def atp (cs o:LI)(k v:Nat):Bool:=ch cs (o.getD k 0).toNat v
section
variable {g : LL} (hg : GOk g) {l o : LI} (hl : GC g l) (h16 : l.length ≤ 16) (ho : Goes l 0 o)
include hg hl
include h16 ho
end
end Go.Sx

namespace Go.Sx
section
variable {g l : LL} {cs : LI} (hg : GOk g)
include hg
end
end Go.Sx

namespace Go.Sx
inductive Pick (n:Nat):Nat→Nat→Int→Int→Prop
 |done {a:Nat} {c:Int}:Pick n a 0 c c
 |more {a k v:Nat} {c t:Int}:a≤v→v<n→Pick n (v+1) k (ior .u32 c (ishl .u32 1 (v:Int))) t→Pick n a (k+1) c t
theorem Pick.le {n a k:Nat}{c t:Int}(h:Pick n a k c t):k=0∨a+k≤n:=by
 induction h with
 |done=>exact .inl rfl
 |more h1 h2 _ ih=>right;rcases ih with h|h<;>omega
end Go.Sx



namespace Go.Sx
section
variable {l : LI} (hn : l.length ≤ 16) (hvs : ∀ s ∈ l, VS s)
include hn hvs
end
section
variable {g : LL} (hg : GOk g)
include hg
end
end Go.Sx

namespace Go.Sx
section
variable {g : LL} (hg : GOk g)
include hg
end
end Go.Sx

namespace Go.Sx
def nearS (F:LI)(p:Pr):Int:=if p.2.2=2 then ishl .u32 1 p.2.1 else if p.2.2=3 then F.getD p.2.1.toNat 0 else if p.2.2=4 then ior .u32 (F.getD p.2.1.toNat 0) (ishl .u32 1 p.2.1) else 0
def Fs (n:Nat):List Pr→LI
 |[]=>List.replicate n 0
 |p::l=>joinF n (Fs n l) p.1.toNat (nearS (Fs n l) p)
def vsOf (l:List Pr):LI:=l.map (·.1)
def Lsts (g:LL)(K:Int):Prop:=In g.length K∧(∀u w,has K u=true→has K w=true→¬adj g u w)∧∀w,w<g.length→has K w=true∨∃v,has K v=true∧adj g v w
end Go.Sx
