/- Parts of the proof: QEW, QFW. -/
import Derived.Test.YtkffjeaefgfnnaaGreatDoorBd4
import Derived.Test.YtkffjeaefgfnnaaGreatDoorProg
import Derived.KernelRfl
set_option linter.unusedVariables false
set_option linter.unusedSimpArgs false
set_option linter.unusedSectionVars false
set_option maxRecDepth 100000
namespace Go.Proofs.YtkffjeaefgfnnaaGreatDoor
open Go Go.Sx
theorem Wk.J {W w:World}{G:GH}{H:List Itm}{v0:Value}{v1:Value}{x0:(List Int)}{x1:(List Int)}(hW:CW W)(m:Mem W G w (H))(h0:RSl (RI .u32) G v0 x0)(h1:RSl (RI .i64) G v1 x1){y:((List Int))×((List Int))}(hd:D.J x0 x1=some y):
  Calls Tryz.prog 80 #[v0,v1] w (Res W G H (fun G' Ho v=>∃r0:Value,∃i0:Itm,∃r2:Value,∃i2:Itm,Ho=[i0,i2]∧v= .tuple #[r0,r2]∧Ow (RI .u32) 65 G' i0 r0 y.1∧Ow (RI .u32) 65 G' i2 r2 y.2)):=by
 refine Aq (args:=[v0,v1]) (N:=67) [.tmp 4,.tmp 5] Tryz.func80 Z Z (Nat.le_of_ble_eq_true Z) Z fun a f=> ?_
 unfold D.J at hd
 refine Ac ?_
 refine Ad f Z fun a f=>Ad f Z fun a f=>Aa (Af ?_)
 obtain⟨aa,ab,hd⟩:=bind_some hd
 refine AF (fun a w=>∃ac:List Int,∃ad:List Int,∃ae:Int,(ac,ad,ae)=aa∧∃(af:GH) (ag:Value) (ah:Itm) (ai:Value) (aj:Itm),GLe G af∧Fr a 67 [(1,v1),(6,ag),(7,ai),(8,(.int .u32 ae))]∧Mem W af w (ah::aj::H)∧Ow (RI .u32) 65 af ah ag ac∧Ow (RI .u32) 65 af aj ai ad) ?_ ?_
 ·refine AY 9 AI (by kernel_rfl) m ?_
  refine Am 1 9 Z f Z fun a f=>Am 3 9 Z f Z fun a f=>q_len (i:=4) 9 Tryz.underlying61 h0 Z (by kernel_rfl) Z f Z Z Z fun a f=>Am 6 9 Z f Z fun a f=>q_two (i:=0) (j:=5) (l1:= #[true,true,false,true,true,false,true,false,false,false,false]) (l2:= #[false,true,false,true,true,true,true,false,false,false,false]) Z Z (by kernel_rfl) Z Z ?_ ?_
  ·intro ak w al m am am
   have h0:=rd1 al h0
   have h1:=rd1 al h1
   refine A7 (R:=(RI .u32)) (xs:=([]:List Int)) (RI.one _) m T61 f Z Z Z (by decide) (All2.nil _) fun an ao w a m ap f=>Aa ?_
   refine am ak [an] _ _ gr m ?_
   refine q_two (i:=2) (j:=5) (l1:= #[true,true,true,true,true,false,true,false,false,false,false]) (l2:= #[true,true,false,true,true,true,true,false,false,false,false]) Z Z (by kernel_rfl) Z Z ?_ ?_
   ·intro aq w ar m au au
    have h0:=rd1 ar h0
    have h1:=rd1 ar h1
    have ap:=od1 ar ap
    obtain⟨av,aw,ab⟩:=bind_some ab
    refine Bh (RI.one _) 0 m ap Z T61 Z (by decide) f Z Z Z (h0.src m) aw fun ax ay w a m az f=>Aa ?_
    refine au aq [ax] _ _ gr m ?_
    obtain⟨aA,aB,ab⟩:=bind_some ab
    refine Ca (i:=7) 9 Z (by kernel_rfl) Z f Z Z Z Tryz.call71 (fun _ _ w aC m=>Wk.o m (rd1 aC h0) aB) fun a f=>q_p 8 9 Z f (fun _=>A5 (f.eval Z)) fun a f=>Br (i:=5) Z (by kernel_rfl) Z fun aD w aE m aF aF=> ?_
    have h0:=rd1 aE h0
    have h1:=rd1 aE h1
    have az:=od1 aE az
    obtain⟨aG,aH,ab⟩:=bind_some ab
    refine CU (R:=(RI .u32)) m T61 Z (by decide) Z f Z Z Z aH fun aI aJ w a m aK f=>Aa ?_
    refine aF aD [aI,ax] _ _ gr m ?_
    refine AU fun aL w aM m=> ?_
    have h0:=rd1 aM h0
    have h1:=rd1 aM h1
    have aK:=od1 aM aK
    have az:=od1 aM az
    refine Ad f Z fun a f=>Ad f Z fun a f=>Aa ?_
    have m:=m.front 1 rfl
    obtain rfl:=sj ab
    exact⟨_,_,_,Z,_,ay,ax,aJ,aI,(gt al (gt ar (gt aE aM))),f.k Z,m,az,aK⟩
   ·intro aD w aE m aF aF
    obtain⟨av,aw,ab⟩:=bind_some ab
    obtain⟨aA,aB,ab⟩:=bind_some ab
    obtain⟨aG,aH,ab⟩:=bind_some ab
    have h0:=rd1 aE h0
    have h1:=rd1 aE h1
    have ap:=od1 aE ap
    refine CU (R:=(RI .u32)) m T61 Z (by decide) Z f Z Z Z aH fun aI aJ w a m aK f=>Aa ?_
    refine aF aD [aI,an] _ _ gr m ?_
    refine Br (i:=2) Z (by kernel_rfl) Z fun aq w ar m au au=> ?_
    have h0:=rd1 ar h0
    have h1:=rd1 ar h1
    have aK:=od1 ar aK
    have ap:=od1 ar ap
    refine Bh (RI.one _) 1 m ap Z T61 Z (by decide) f Z Z Z (h0.src m) aw fun ax ay w a m az f=>Aa ?_
    refine au aq [aI,ax] _ _ gr m ?_
    refine Ca (i:=7) 9 Z (by kernel_rfl) Z f Z Z Z Tryz.call71 (fun _ _ w aC m=>Wk.o m (rd1 aC h0) aB) fun a f=>q_p 8 9 Z f (fun _=>A5 (f.eval Z)) fun a f=>AU fun aL w aM m=> ?_
    have h0:=rd1 aM h0
    have h1:=rd1 aM h1
    have aK:=od1 aM aK
    have az:=od1 aM az
    refine Ad f Z fun a f=>Ad f Z fun a f=>Aa ?_
    have m:=m.front 1 rfl
    obtain rfl:=sj ab
    exact⟨_,_,_,Z,_,ay,ax,aJ,aI,(gt al (gt aE (gt ar aM))),f.k Z,m,az,aK⟩
  ·intro aD w aE m aF aF
   obtain⟨av,aw,ab⟩:=bind_some ab
   obtain⟨aA,aB,ab⟩:=bind_some ab
   obtain⟨aG,aH,ab⟩:=bind_some ab
   have h0:=rd1 aE h0
   have h1:=rd1 aE h1
   refine CU (R:=(RI .u32)) m T61 Z (by decide) Z f Z Z Z aH fun aI aJ w a m aK f=>Aa ?_
   refine aF aD [aI] _ _ gr m ?_
   refine Br (i:=0) Z (by kernel_rfl) Z fun ak w al m am am=> ?_
   have h0:=rd1 al h0
   have h1:=rd1 al h1
   have aK:=od1 al aK
   refine A7 (R:=(RI .u32)) (xs:=([]:List Int)) (RI.one _) m T61 f Z Z Z (by decide) (All2.nil _) fun an ao w a m ap f=>Aa ?_
   refine am ak [an,aI] _ _ gr m ?_
   refine Br (i:=2) Z (by kernel_rfl) Z fun aq w ar m au au=> ?_
   have h0:=rd1 ar h0
   have h1:=rd1 ar h1
   have ap:=od1 ar ap
   have aK:=od1 ar aK
   refine Bh (RI.one _) 0 m ap Z T61 Z (by decide) f Z Z Z (h0.src m) aw fun ax ay w a m az f=>Aa ?_
   refine au aq [ax,aI] _ _ gr m ?_
   refine Ca (i:=7) 9 Z (by kernel_rfl) Z f Z Z Z Tryz.call71 (fun _ _ w aC m=>Wk.o m (rd1 aC h0) aB) fun a f=>q_p 8 9 Z f (fun _=>A5 (f.eval Z)) fun a f=>AU fun aL w aM m=> ?_
   have h0:=rd1 aM h0
   have h1:=rd1 aM h1
   have az:=od1 aM az
   have aK:=od1 aM aK
   refine Ad f Z fun a f=>Ad f Z fun a f=>Aa ?_
   obtain rfl:=sj ab
   exact⟨_,_,_,Z,_,ay,ax,aJ,aI,(gt aE (gt al (gt ar aM))),f.k Z,m,az,aK⟩
 ·rintro a w ⟨ac,ad,ae,rfl,af,ag,ah,ai,aj,aN,f,m,aO,aP⟩
  have h1:=rd1 aN h1
  refine Af (Ac ?_)
  refine Ab f Z fun a f=>AT Tryz.underlying67 f Z Z h1 fun a f=>Ab f Z fun a f=>Aa ?_
  obtain⟨aQ,aR,hd⟩:=bind_some hd
  refine AF (fun a w=>∃aS:List Int,∃aT:List Int,(aS,aT)=aQ∧∃(aU:GH) (aV:Itm) (aW:Itm),GLe af aU∧Fr a 67 [(6,ag),(7,ai)]∧Mem W aU w (aV::aW::H)∧Ow (RI .u32) 65 aU aV ag aS∧Ow (RI .u32) 65 aU aW ai aT) ?_ ?_
  ·refine Aj ?_
   refine AC (fun aX a w=>∃aY:List Int,∃aZ:List Int,∃a0:Int,∃a1:Int,(aY,aZ,a0,a1)=aX∧∃(a2:GH) (a3:Itm) (a4:Itm),GLe af a2∧Fr a 67 [(6,ag),(7,ai),(8,(.int .u32 a0)),(21,v1),(22,(.int .i64 (x1.length:Int))),(23,(.int .i64 a1))]∧Mem W a2 w (a3::a4::H)∧Ow (RI .u32) 65 a2 a3 ag aY∧Ow (RI .u32) 65 a2 a4 ai aZ) aR ⟨_,_,_,_,Z,_,ah,aj,gr,f.k Z,m,aO,aP⟩ ?_
   clear aR f m
   rintro aX a5 a6 a7 a w ⟨aY,aZ,a0,a1,rfl,a2,a3,a4,a8,f,m,a9,ba⟩
   have h1:=rd1 a8 h1
   refine Ac ?_
   refine Ai f Z Z AA fun a f=>Aa (Af ?_)
   rcases Ae a6 with⟨bb,a6⟩|⟨bb,a6⟩
   ·refine Ak f Z bb ?_
    refine Al ?_
    refine Af (Aj (Ac ?_))
    obtain⟨bc,bd,a6⟩:=bind_some a6
    refine AZ T67 f Z Z Z h1 bd fun be bf a bg bh f=> ?_
    subst bh
    refine Au m Pl3 f Z Z bg fun a f=>Ad f Z fun a f=>Aa (Ac ?_)
    refine Ab f Z fun a f=>Ab f Z fun a f=> ?_
    obtain⟨bi,bj,a6⟩:=bind_some a6
    refine Bc f Z Tryz.call56 (Wk.d m bj) fun bk w bl m a f=> ?_
    have h1:=rd1 bl h1
    have a9:=od1 bl a9
    have ba:=od1 bl ba
    refine Ai f Z Z C7 fun a f=>Ad f Z fun a f=>Aa (Ac ?_)
    refine Ab f Z fun a f=>Ab f Z fun a f=>Ab f Z fun a f=>Ab f Z fun a f=> ?_
    obtain⟨bm,bn,a6⟩:=bind_some a6
    refine AV 0 m a9 Z T61 f Z Z Z bn fun bo a bp f=>Bt 0 m a9 Z DB f Z Z bp bn fun bq a br f=> ?_
    subst br
    refine Ab f Z fun a f=>Ai f Z Z Er fun a f=> ?_
    obtain⟨bs,bt,a6⟩:=bind_some a6
    refine AV 1 m ba Z T61 f Z Z Z bt fun bu a bv f=>AH 1 m ba Z Tryz.sizeOf65 f Z Z bv bt Z Z Z fun bw w m bx=>Aa (Ac ?_)
    refine Ab f Z fun a f=>Ab f Z fun a f=> ?_
    obtain⟨bz,bA,a6⟩:=bind_some a6
    refine AV 1 m bx Z T61 f Z Z Z bA fun bB a bC f=>Bt 1 m bx Z DB f Z Z bC bA fun bD a bE f=> ?_
    subst bE
    obtain⟨bF,bG,a6⟩:=bind_some a6
    refine AK f Z Tryz.call72 (Wk.i hW m bG) fun bH bI bJ w bK m bL a f=> ?_
    obtain⟨bM,bN,rfl,rfl,bO⟩:=bL
    have h1:=rd1 bK h1
    have a9:=od1 bK a9
    have bx:=od1 bK bx
    refine Bw 0 m bO Z Tryz.underlying67 f Z Z fun a f=>Ab f Z fun a f=>Aa ?_
    obtain⟨bP,bQ,a6⟩:=bind_some a6
    refine AF (fun a w=>∃bR:List Int,bR=bP∧∃(bS:GH) (bT:Itm),GLe bI bS∧Fr a 67 [(6,ag),(7,ai),(8,(.int .u32 (iandNot .u32 a0 bi))),(21,v1),(22,(.int .i64 (x1.length:Int))),(23,(.int .i64 a1))]∧Mem W bS w (bT::bw::H)∧Ow (RI .u32) 65 bS bT ag bR) ?_ ?_
    ·refine Aj ?_
     have m:=m.front 2 rfl
     have m:=m.front 2 rfl
     refine AC (fun bU a w=>∃bV:List Int,∃bW:Int,(bV,bW)=bU∧∃(bX:GH) (bY:Itm),GLe bI bX∧Fr a 67 [(6,ag),(7,ai),(8,(.int .u32 (iandNot .u32 a0 bi))),(10,(.int .i64 bc)),(21,v1),(22,(.int .i64 (x1.length:Int))),(23,(.int .i64 a1)),(44,bM),(45,(.int .i64 (bF.length:Int))),(46,(.int .i64 bW))]∧Mem W bX w (bY::bw::bN::H)∧Ow (RI .u32) 65 bX bY ag bV) bQ ⟨_,_,Z,_,a3,gr,f.k Z,m,a9⟩ ?_
     clear bQ f m
     rintro bU bZ b0 b1 a w ⟨bV,bW,rfl,bX,bY,b2,f,m,b3⟩
     have h1:=rd1 b2 h1
     have bx:=od1 b2 bx
     have bO:=od1 b2 bO
     refine Ac ?_
     refine Ai f Z Z AA fun a f=>Aa (Af ?_)
     rcases Ae b0 with⟨b4,b0⟩|⟨b4,b0⟩
     ·refine Ak f Z b4 ?_
      refine Al ?_
      refine Af (Aj (Ac ?_))
      obtain⟨b5,b6,b0⟩:=bind_some b0
      refine AV 2 m bO Z T67 f Z Z Z b6 fun b7 a b8 f=>Bt 2 m bO Z Pl3 f Z Z b8 b6 fun b9 a ca f=> ?_
      subst ca
      refine Ad f Z fun a f=>Aa ?_
      refine AY 13 AI (by kernel_rfl) m ?_
      refine Am 0 13 Z f Z fun a f=>Am 1 13 Z f Z fun a f=> ?_
      obtain⟨cb,cc,b0⟩:=bind_some b0
      refine AW 2 13 0 m b3 T61 cc Z f Z Z fun cd a ce f=>Bg 3 13 0 b3 DB ce cc Z f Z fun cf a cg f=> ?_
      subst cg
      refine Am 4 13 Z f Z fun a f=>Am 5 13 Z f Z fun a f=> ?_
      obtain⟨ch,ci,b0⟩:=bind_some b0
      refine AW 6 13 1 m bx T61 ci Z f Z Z fun cj a ck f=>Bg 7 13 1 bx DB ck ci Z f Z fun cl a cm f=> ?_
      subst cm
      refine Am 8 13 Z f Z fun a f=> ?_
      obtain⟨cn,co,b0⟩:=bind_some b0
      refine Ca (i:=9) 13 Z (by kernel_rfl) Z f Z Z Z Tryz.call56 (fun _ _ w cp m=>Wk.d m co) fun a f=>q_p 10 13 Z f (fun _=>AL (f.eval Z) (f.eval Z) C7) fun a f=>q_p 11 13 Z f (fun _=>AL (f.eval Z) (f.eval Z) b_or) fun a f=> ?_
      obtain⟨cq,cr,b0⟩:=bind_some b0
      refine AW 12 13 0 m b3 T61 cr Z f Z Z fun cs a ct f=>AU fun cu w cv m=> ?_
      have h1:=rd1 cv h1
      have b3:=od1 cv b3
      have bx:=od1 cv bx
      have bO:=od1 cv bO
      refine AH 0 m b3 Z Tryz.sizeOf65 f Z Z ct cr Z Z Z fun cw w m cx=>Aa (Ah ?_)
      refine Ai f Z Z As fun a f=>Ab f Z fun a f=>Aa ?_
      obtain rfl:=sj b0
      exact⟨_,Z,_,_,Z,_,cw,(gt b2 cv),f.k Z,m,cx⟩
     ·refine Ag f Z b4 ?_
      refine Aw Z ?_
      have m:=m.eraseAt 2
      obtain rfl:=sj b0
      obtain rfl:=b1 _ rfl
      exact⟨_,Z,_,bY,b2,f.k Z,m,b3⟩
    ·rintro a w ⟨bR,rfl,bS,bT,cy,f,m,cz⟩
     have h1:=rd1 cy h1
     have bx:=od1 cy bx
     refine Ah ?_
     refine Ai f Z Z As fun a f=>Ab f Z fun a f=>Aa ?_
     obtain rfl:=sj a6
     exact⟨_,Z,_,_,_,_,Z,_,bT,bw,(gt a8 (gt bl (gt bK cy))),f.k Z,m,cz,bx⟩
   ·refine Ag f Z bb ?_
    refine Aw Z ?_
    obtain rfl:=sj a6
    obtain rfl:=a7 _ rfl
    exact⟨_,_,Z,_,a3,a4,a8,f.k Z,m,a9,ba⟩
  ·rintro a w ⟨aS,aT,rfl,aU,aV,aW,cA,f,m,cB,cC⟩
   refine Ac ?_
   refine Ab f Z fun a f=>Ab f Z fun a f=>Ad f Z fun a f=>Ad f Z fun a f=>Aa ?_
   refine Ao ?_
   obtain rfl:=sj hd
   exact⟨[ag,ai],⟨f.get _ _ Z,f.get _ _ Z,trivial⟩,f.defers,_,[aV,aW],(gt aN cA),m,_,_,_,_,Z,Z,cB,cC⟩
theorem Wk.Q0 {W w:World}{G:GH}{H:List Itm}{v0:Value}{x0:(List Int)}(m:Mem W G w (H))(h0:RSl (RI .i64) G v0 x0){y:((List Int))}(hd:D.Q0 x0=some y):
  Calls Tryz.prog 35 #[v0] w (Res W G H (fun G' Ho v=>∃r0:Value,∃i0:Itm,Ho=[i0]∧r0=v∧Ow (RI .i64) 2 G' i0 r0 y)):=by
 refine Aq (args:=[v0]) (N:=21) [.tmp 2] Tryz.func35 Z Z (Nat.le_of_ble_eq_true Z) Z fun a f=> ?_
 unfold D.Q0 at hd
 refine Ac ?_
 refine Ad f Z fun a f=>Aa (Ac ?_)
 refine Ab f Z fun a f=>AT Tryz.underlying67 f Z Z h0 fun a f=> ?_
 obtain⟨aa,ab,hd⟩:=bind_some hd
 refine CU (R:=(RI .i64)) m T31 Z (by decide) Z f Z Z Z ab fun ac ad w a m ae f=>Ad f Z fun a f=>Aa (Af (Ac ?_))
 refine Ab f Z fun a f=>AT Tryz.underlying67 f Z Z h0 fun a f=>Ab f Z fun a f=>Aa ?_
 obtain⟨af,ag,hd⟩:=bind_some hd
 refine AF (fun a w=>∃ah:List Int,ah=af∧∃(ai:GH) (aj:Value) (ak:Itm),GLe G ai∧Fr a 21 [(3,aj)]∧Mem W ai w (ak::H)∧Ow (RI .i64) 2 ai ak aj ah) ?_ ?_
 ·refine Aj ?_
  refine AC (fun al a w=>∃am:List Int,∃an:Int,(am,an)=al∧∃(ao:GH) (ap:Value) (aq:Itm),GLe G ao∧Fr a 21 [(3,ap),(9,v0),(10,(.int .i64 (x0.length:Int))),(11,(.int .i64 an))]∧Mem W ao w (aq::H)∧Ow (RI .i64) 2 ao aq ap am) ag ⟨_,_,Z,_,ad,ac,gr,f.k Z,m,ae⟩ ?_
  clear ag f m
  rintro al ar au av a w ⟨am,an,rfl,ao,ap,aq,aw,f,m,ax⟩
  have h0:=rd1 aw h0
  refine Ac ?_
  refine Ai f Z Z AA fun a f=>Aa (Af ?_)
  rcases Ae au with⟨ay,au⟩|⟨ay,au⟩
  ·refine Ak f Z ay ?_
   refine Al ?_
   refine Af (Aj (Ac ?_))
   obtain⟨az,aA,au⟩:=bind_some au
   refine AZ T67 f Z Z Z h0 aA fun aB aC a aD aE f=> ?_
   subst aE
   refine Au m Pl3 f Z Z aD fun a f=>Ad f Z fun a f=>Aa (Ah ?_)
   refine Ab f Z fun a f=>Ab f Z fun a f=>A7 (R:=(RI .i64)) (xs:=([az]:List Int)) (RI.one _) m T31 f Z Z Z (by decide) (All2.cons Z (All2.nil _)) fun aF aG w a m aH f=> ?_
   obtain⟨aI,aJ,au⟩:=bind_some au
   refine Bh (RI.one _) 1 m ax Z T31 Z (by decide) f Z Z Z (Ow.src (j:=0) aH m Z) aJ fun aK aL w a m aM f=>Ad f Z fun a f=>Aa (Ah ?_)
   refine Ai f Z Z As fun a f=>Ab f Z fun a f=>Aa ?_
   have m:=m.front 1 rfl
   have m:=m.eraseAt 1
   obtain rfl:=sj au
   exact⟨_,Z,_,_,Z,_,aL,aK,aw,f.k Z,m,aM⟩
  ·refine Ag f Z ay ?_
   refine Aw Z ?_
   obtain rfl:=sj au
   obtain rfl:=av _ rfl
   exact⟨_,Z,_,ap,aq,aw,f.k Z,m,ax⟩
 ·rintro a w ⟨ah,rfl,ai,aj,ak,aN,f,m,aO⟩
  refine Ac ?_
  refine Ab f Z fun a f=>Ad f Z fun a f=>Aa ?_
  refine Ao ?_
  obtain rfl:=sj hd
  exact⟨[aj],⟨f.get _ _ Z,trivial⟩,f.defers,_,[ak],aN,m,_,_,Z,Z,aO⟩
theorem Wk.M {W w:World}{G:GH}{H:List Itm}{x0:Int}(hW:CW W)(m:Mem W G w (H)){y:((List Int))}(hd:D.M x0=some y):
  Calls Tryz.prog 57 #[(.int .u32 x0)] w (Res W G H (fun G' Ho v=>∃r0:Value,∃i0:Itm,Ho=[i0]∧r0=v∧Ow (RI .i64) 2 G' i0 r0 y)):=by
 refine Aq (args:=[(.int .u32 x0)]) (N:=6) [.tmp 2] Tryz.func57 Z Z (Nat.le_of_ble_eq_true Z) Z fun a f=> ?_
 unfold D.M at hd
 refine Ac ?_
 refine Ad f Z fun a f=>Aa (Ac ?_)
 refine Ab f Z fun a f=> ?_
 obtain⟨aa,ab,hd⟩:=bind_some hd
 refine AK f Z Tryz.call72 (Wk.i hW m ab) fun ac ad ae w af m ag a f=> ?_
 obtain⟨ah,ai,rfl,rfl,aj⟩:=ag
 obtain⟨ak,al,hd⟩:=bind_some hd
 refine AK f Z Tryz.call35 (Ow.lendCall (RI.mono _) 0 aj m Z (fun am an m ao=>Wk.Q0 m ao al) (fun _ G' _ _ ⟨a0,a1,e1,e2,o0⟩=>⟨a0,a1,e1,e2,Ow.free (RI.free _) G' o0⟩)) fun ap aq ar w au m av a f=> ?_
 obtain⟨aw,ax,rfl,rfl,ay⟩:=av
 have aj:=od1 au aj
 refine Ad f Z fun a f=>Aa ?_
 refine Ao ?_
 have m:=m.eraseAt 1
 obtain rfl:=sj hd
 exact⟨[aw],⟨f.get _ _ Z,trivial⟩,f.defers,_,[ax],(gt af au),m,_,_,Z,Z,ay⟩
theorem Wk.Y {W w:World}{G:GH}{H:List Itm}{x0:Int}{x1:Int}(m:Mem W G w (H)){y:((List Int))}(hd:D.Y x0 x1=some y):
  Calls Tryz.prog 81 #[(.int .i64 x0),(.int .i64 x1)] w (Res W G H (fun G' Ho v=>∃r0:Value,∃i0:Itm,Ho=[i0]∧r0=v∧Ow (RI .i64) 2 G' i0 r0 y)):=by
 refine Aq (args:=[(.int .i64 x0),(.int .i64 x1)]) (N:=12) [.tmp 4] Tryz.func81 Z Z (Nat.le_of_ble_eq_true Z) Z fun a f=> ?_
 unfold D.Y at hd
 refine Ac ?_
 refine Ad f Z fun a f=>Aa (Ac ?_)
 refine Ab f Z fun a f=>Ab f Z fun a f=>l_o f (r_min2 (f.eval Z) (f.eval Z)) fun a f=>Ab f Z fun a f=>Ab f Z fun a f=>l_o f (r_max2 (f.eval Z) (f.eval Z)) fun a f=>A7 (R:=(RI .i64)) (xs:=([(if x1<x0 then x1 else x0),(if x0<x1 then x1 else x0)]:List Int)) (RI.one _) m T31 f Z Z Z (by decide) (All2.cons Z (All2.cons Z (All2.nil _))) fun aa ab w a m ac f=>Ad f Z fun a f=>Aa ?_
 refine Ao ?_
 obtain rfl:=sj hd
 exact⟨[ab],⟨f.get _ _ Z,trivial⟩,f.defers,_,[aa],gr,m,_,_,Z,Z,ac⟩
theorem Wk.m1 {W w:World}{G:GH}{H:List Itm}{v0:Value}{it0:Itm}{x0:(List (Value×List Int))}{x1:Int}{x2:Int}(m:Mem W G w (it0::H))(o0:Ow (RTg (RI .i64)) 31 G it0 v0 x0){y:((List (Value×List Int)))}(hd:D.m1 x0 x1 x2=some y):
  Calls Tryz.prog 126 #[v0,(.int .i64 x1),(.int .i64 x2),(.func (.func 76) #[] #[])] w (Res W G H (fun G' Ho _=>∃i0:Itm,Ho=[i0]∧Ow (RTg (RI .i64)) 31 G' i0 v0 y)):=by
 refine Aq (args:=[v0,(.int .i64 x1),(.int .i64 x2),(.func (.func 76) #[] #[])]) (N:=53) [] Tryz.func126 Z Z (Nat.le_of_ble_eq_true Z) Z fun a f=> ?_
 unfold D.m1 at hd
 refine Ac ?_
 refine Ab f Z fun a f=>Ai f Z Z As fun a f=>Ad f Z fun a f=>Aa ?_
 obtain⟨aa,ab,hd⟩:=bind_some hd
 refine AF (fun a w=>∃ac:List (Value×List Int),ac=aa∧∃(ad:GH) (ae:Itm),GLe G ad∧Fr a 53 []∧Mem W ad w (ae::H)∧Ow (RTg (RI .i64)) 31 ad ae v0 ac) ?_ ?_
 ·refine Aj ?_
  refine AC (fun af a w=>∃ag:List (Value×List Int),∃ah:Int,(ag,ah)=af∧∃(ai:GH) (aj:Itm),GLe G ai∧Fr a 53 [(0,v0),(1,(.int .i64 x1)),(2,(.int .i64 x2)),(3,(.func (.func 76) #[] #[])),(8,(.int .i64 ah))]∧Mem W ai w (aj::H)∧Ow (RTg (RI .i64)) 31 ai aj v0 ag) ab ⟨_,_,Z,_,it0,gr,f.k Z,m,o0⟩ ?_
  clear ab f m
  rintro af ak al am a w ⟨ag,ah,rfl,ai,aj,an,f,m,ao⟩
  refine Af (Ac ?_)
  refine Ab f Z fun a f=>Ab f Z fun a f=>Ai f Z Z AA fun a f=>Aa ?_
  rcases Ae al with⟨ap,al⟩|⟨ap,al⟩
  ·refine Ak f Z ap ?_
   refine Al ?_
   refine Af (Aj (Ac ?_))
   refine Ab f Z fun a f=>Ad f Z fun a f=>Aa ?_
   obtain⟨aq,ar,al⟩:=bind_some al
   refine AF (fun a w=>∃au:List (Value×List Int),au=aq∧∃(av:GH) (aw:Itm),GLe ai av∧Fr a 53 [(0,v0),(1,(.int .i64 x1)),(2,(.int .i64 x2)),(3,(.func (.func 76) #[] #[])),(8,(.int .i64 ah))]∧Mem W av w (aw::H)∧Ow (RTg (RI .i64)) 31 av aw v0 au) ?_ ?_
   ·refine Aj ?_
    refine AC (fun ax a w=>∃ay:List (Value×List Int),∃az:Int,(ay,az)=ax∧∃(aA:GH) (aB:Itm),GLe ai aA∧Fr a 53 [(0,v0),(1,(.int .i64 x1)),(2,(.int .i64 x2)),(3,(.func (.func 76) #[] #[])),(8,(.int .i64 ah)),(9,(.int .i64 az))]∧Mem W aA w (aB::H)∧Ow (RTg (RI .i64)) 31 aA aB v0 ay) ar ⟨_,_,Z,_,aj,gr,f.k Z,m,ao⟩ ?_
    clear ar f m
    rintro ax aC aD aE a w ⟨ay,az,rfl,aA,aB,aF,f,m,aG⟩
    refine Af (Af ?_)
    refine AY 17 AI (by kernel_rfl) m ?_
    refine Am 0 17 Z f Z fun a f=>Am 1 17 Z f Z fun a f=>q_p 2 17 Z f (fun _=>AL (f.eval Z) (f.eval Z) Cr) fun a f=>Am 3 17 Z f Z fun a f=> ?_
    obtain⟨aH,aI,aD⟩:=bind_some aD
    refine CY (fuel':=0) (listed':= #[true,true,true,true,true,true,true,true,true,true,true,true,true,true,true,true,true]) (fun a=>Fr a 53 [(0,v0),(1,(.int .i64 x1)),(2,(.int .i64 x2)),(3,(.func (.func 76) #[] #[])),(8,(.int .i64 ah)),(9,(.int .i64 az)),(18,(.int .i64 az)),(19,(.int .i64 x1)),(20,(.bool (decide (x1<az)))),(21,(.bool (decide (x1<az)))),(34,(.bool aH))]) ?_ ?_
    ·intro a f
     refine AU fun aJ w aK m=> ?_
     have aG:=Ow.mono (RTg.mono (RI.mono _)) aK aG
     refine Aa ?_
     rcases Ae aD with⟨aL,aD⟩|⟨aL,aD⟩
     ·refine Ak f Z aL ?_
      refine Al ?_
      refine Af (Aj ?_)
      refine Cd AI m ?_
      refine p_p 2 Z (by kernel_rfl) f Z Z Z (fun _=>AM (f.eval Z)) fun a f=>p_p 3 Z (by kernel_rfl) f Z Z Z (fun _=>AM (f.eval Z)) fun a f=>p_p 4 Z (by kernel_rfl) f Z Z Z (fun _=>AL (f.eval Z) (f.eval Z) A8) fun a f=>Cb 28015 12 (by kernel_rfl) Z ?_
      refine Am 0 28015 Z f Z fun a f=>Am 1 28015 Z f Z fun a f=>Am 5 28015 Z f Z fun a f=>Am 6 28015 Z f Z fun a f=>q_p 7 28015 Z f (fun _=>AL (f.eval Z) (f.eval Z) A8) fun a f=> ?_
      obtain⟨aM,aN,aD⟩:=bind_some aD
      refine AW 8 28015 0 m aG T27 aN Z f Z Z fun aO a aP f=>Bg 9 28015 0 aG AO aP aN Z f Z fun aQ a aR f=>Am 10 28015 Z f Z fun a f=>Am 11 28015 Z f Z fun a f=> ?_
      obtain⟨aS,aT,aD⟩:=bind_some aD
      refine AW 12 28015 0 m aG T27 aT Z f Z Z fun aU a aV f=>Bg 13 28015 0 aG AO aV aT Z f Z fun aW a aX f=> ?_
      obtain⟨aY,aZ,aD⟩:=bind_some aD
      refine AW 14 28015 0 m aG T27 aZ Z f Z Z fun a0 a a1 f=>AU fun a2 w a3 m=> ?_
      have aR:=(RTg.mono (RI.mono _)) _ _ _ _ a3 aR
      have aX:=(RTg.mono (RI.mono _)) _ _ _ _ a3 aX
      have aG:=Ow.mono (RTg.mono (RI.mono _)) a3 aG
      refine AH 0 m aG Z Tryz.sizeOf31 f Z Z a1 aZ aR.cells aR.one1 aR fun a4 w m a5=> ?_
      obtain⟨a6,a7,aD⟩:=bind_some aD
      refine AV 0 m a5 Z T27 f Z Z Z a7 fun a8 a a9 f=>AH 0 m a5 Z Tryz.sizeOf31 f Z Z a9 a7 aX.cells aX.one1 aX fun ba w m bb=>Aa (Ah ?_)
      refine Ab f Z fun a f=>Ai f Z Z A8 fun a f=>Ad f Z fun a f=>Aa ?_
      obtain rfl:=sj aD
      exact⟨_,Z,_,_,Z,_,ba,(gt aF (gt aK a3)),f.k Z,m,bb⟩
     ·refine Ag f Z aL ?_
      refine Aw Z ?_
      obtain rfl:=sj aD
      obtain rfl:=aE _ rfl
      exact⟨_,Z,_,aB,(gt aF aK),f.k Z,m,aG⟩
    ·intro bc
     rcases Ae aI with⟨bd,aI⟩|⟨bd,aI⟩
     ·refine Am (hw:=wo f bd) 4 17 Z f Z fun a f=> ?_
      refine Am (hw:=wo f bd) 5 17 Z f Z fun a f=>Am (hw:=wo f bd) 6 17 Z f Z fun a f=> ?_
      obtain⟨be,bf,aI⟩:=bind_some aI
      refine AW (hw:=wo f bd) 7 17 0 m aG T27 bf Z f Z Z fun bg a bh f=>Bg (hw:=wo f bd) 8 17 0 aG AO bh bf Z f Z fun bi a bj f=>Am (hw:=wo f bd) 9 17 Z f Z fun a f=>Am (hw:=wo f bd) 10 17 Z f Z fun a f=>q_p (hw:=wo f bd) 11 17 Z f (fun _=>AL (f.eval Z) (f.eval Z) A8) fun a f=> ?_
      obtain⟨bk,bl,aI⟩:=bind_some aI
      refine AW (hw:=wo f bd) 12 17 0 m aG T27 bl Z f Z Z fun bm a bn f=>Bg (hw:=wo f bd) 13 17 0 aG AO bn bl Z f Z fun bo a bp f=> ?_
      obtain⟨bq,br,aI⟩:=bind_some aI
      refine Cp (i:=14) 17 Z (by kernel_rfl) Z f (Bz f Z Z Z bd) Z Z Z Tryz.call76 (fun _ _ w bs m=>Wk.b m (rd1 bs (bj.2)) (rd1 bs (bp.2)) br) fun a f=>q_p (hw:=wo f bd) 15 17 Z f (fun _=>AL (f.eval Z) (f.eval Z) AA) fun a f=>q_p 16 17 Z f (fun _=>A3 (f.eval Z) bd (f.eval Z)) fun a f=> ?_
      obtain rfl:=sj aI
      exact bc _ (f.k Z)
     ·refine Ax 4 17 Z f bd fun a f=> ?_
      refine Ax 5 17 Z f bd fun a f=>Ax 6 17 Z f bd fun a f=>Ax 7 17 Z f bd fun a f=>Ax 8 17 Z f bd fun a f=>Ax 9 17 Z f bd fun a f=>Ax 10 17 Z f bd fun a f=>Ax 11 17 Z f bd fun a f=>Ax 12 17 Z f bd fun a f=>Ax 13 17 Z f bd fun a f=>Ax 14 17 Z f bd fun a f=>Ax 15 17 Z f bd fun a f=>q_p 16 17 Z f (fun _=>A2 (f.eval Z) bd (f.eval Z)) fun a f=> ?_
      obtain rfl:=sj aI
      exact bc _ (f.k Z)
   ·rintro a w ⟨au,rfl,av,aw,bt,f,m,bu⟩
    refine Ah ?_
    refine Ab f Z fun a f=>Ai f Z Z As fun a f=>Ad f Z fun a f=>Aa ?_
    obtain rfl:=sj al
    exact⟨_,Z,_,_,Z,_,aw,(gt an bt),f.k Z,m,bu⟩
  ·refine Ag f Z ap ?_
   refine Aw Z ?_
   obtain rfl:=sj al
   obtain rfl:=am _ rfl
   exact⟨_,Z,_,aj,an,f.weak trivial,m,ao⟩
 ·rintro a w ⟨ac,rfl,ad,ae,bv,f,m,bw⟩
  obtain rfl:=sj hd
  exact⟨[],trivial,f.defers,_,[ae],bv,m,_,Z,bw⟩
theorem Wk.U0 {W w:World}{G:GH}{H:List Itm}{v0:Value}{it0:Itm}{x0:(List (Value×List Int))}{x1:Int}{x2:Int}{x3:Int}(m:Mem W G w (it0::H))(o0:Ow (RTg (RI .i64)) 31 G it0 v0 x0){y:((List (Value×List Int)))}(hd:D.U0 x0 x1 x2 x3=some y):
  Calls Tryz.prog 137 #[v0,(.int .i64 x1),(.int .i64 x2),(.int .i64 x3),(.func (.func 76) #[] #[])] w (Res W G H (fun G' Ho _=>∃i0:Itm,Ho=[i0]∧Ow (RTg (RI .i64)) 31 G' i0 v0 y)):=by
 refine Aq (args:=[v0,(.int .i64 x1),(.int .i64 x2),(.int .i64 x3),(.func (.func 76) #[] #[])]) (N:=82) [] Tryz.func137 Z Z (Nat.le_of_ble_eq_true Z) Z fun a f=> ?_
 unfold D.U0 at hd
 refine Ac ?_
 refine Ab f Z fun a f=>Ad f Z fun a f=>Aa ?_
 obtain⟨aa,ab,hd⟩:=bind_some hd
 refine AF (fun a w=>∃q_182':(List (Value×List Int)),aa= .inl q_182'∧∃ac:List (Value×List Int),ac=q_182'∧∃(ad:GH) (ae:Itm),GLe G ad∧Fr a 82 []∧Mem W ad w (ae::H)∧Ow (RTg (RI .i64)) 31 ad ae v0 ac) ?_ ?_
 ·refine Aj ?_
  refine AC (fun af a w=>∃ag:List (Value×List Int),∃ah:Int,(ag,ah)=af∧∃(ai:GH) (aj:Itm),GLe G ai∧Fr a 82 [(0,v0),(2,(.int .i64 x2)),(3,(.int .i64 x3)),(4,(.func (.func 76) #[] #[])),(10,(.int .i64 ah))]∧Mem W ai w (aj::H)∧Ow (RTg (RI .i64)) 31 ai aj v0 ag) ab ⟨_,_,Z,_,it0,gr,f.k Z,m,o0⟩ ?_
  clear ab f m
  rintro af ak al am a w ⟨ag,ah,rfl,ai,aj,an,f,m,ao⟩
  refine Aj (Ac ?_)
  refine Ab f Z fun a f=>Ai f Z Z DW fun a f=>Ai f Z Z As fun a f=>Ad f Z fun a f=>Aa (Af (Ac ?_))
  refine Ab f Z fun a f=>Ab f Z fun a f=>Ai f Z Z Cz fun a f=>Aa ?_
  rcases Ae al with⟨ap,al⟩|⟨ap,al⟩
  ·refine Ak f Z ap ?_
   refine Aw Z ?_
   obtain rfl:=sj al
   obtain rfl:=am _ rfl
   exact⟨_,Z,_,Z,_,aj,an,f.weak trivial,m,ao⟩
  ·refine Ag f Z ap ?_
   refine Al ?_
   refine Af (Af ?_)
   refine AY 22 AI (by kernel_rfl) m ?_
   refine Am 0 22 Z f Z fun a f=>q_p 1 22 Z f (fun _=>AL (f.eval Z) (f.eval Z) As) fun a f=>Am 2 22 Z f Z fun a f=>q_p 3 22 Z f (fun _=>AL (f.eval Z) (f.eval Z) AA) fun a f=>Am 4 22 Z f Z fun a f=> ?_
   obtain⟨aq,ar,al⟩:=bind_some al
   refine CY (fuel':=0) (listed':= #[true,true,true,true,true,true,true,true,true,true,true,true,true,true,true,true,true,true,true,true,true,true]) (fun a=>Fr a 82 [(0,v0),(2,(.int .i64 x2)),(3,(.int .i64 x3)),(4,(.func (.func 76) #[] #[])),(10,(.int .i64 ah)),(11,(.int .i64 (IntKind.i64.wrap ((IntKind.i64.wrap (2*ah))+1)))),(18,(.bool (decide (x2≤(IntKind.i64.wrap ((IntKind.i64.wrap (2*ah))+1)))))),(19,(.int .i64 (IntKind.i64.wrap ((IntKind.i64.wrap (2*ah))+1)))),(20,(.int .i64 (IntKind.i64.wrap ((IntKind.i64.wrap ((IntKind.i64.wrap (2*ah))+1))+1)))),(21,(.int .i64 x2)),(22,(.bool (decide ((IntKind.i64.wrap ((IntKind.i64.wrap ((IntKind.i64.wrap (2*ah))+1))+1))<x2)))),(23,(.bool (decide ((IntKind.i64.wrap ((IntKind.i64.wrap ((IntKind.i64.wrap (2*ah))+1))+1))<x2)))),(40,(.bool aq))]) ?_ ?_
   ·intro a f
    refine AU fun au w av m=> ?_
    have ao:=Ow.mono (RTg.mono (RI.mono _)) av ao
    refine Aa ?_
    obtain⟨aw,ax,al⟩:=bind_some al
    refine AF (fun a w=>∃ay:Int,ay=aw∧∃(az:GH),GLe au az∧Fr a 82 [(0,v0),(2,(.int .i64 x2)),(3,(.int .i64 x3)),(4,(.func (.func 76) #[] #[])),(10,(.int .i64 ah)),(11,(.int .i64 ay))]∧Mem W az w (aj::H)) ?_ ?_
    ·rcases Ae ax with⟨aA,ax⟩|⟨aA,ax⟩
     ·refine Ak f Z aA ?_
      refine Ah ?_
      refine Ab f Z fun a f=>Ai f Z Z As fun a f=>Ad f Z fun a f=>Aa ?_
      obtain rfl:=sj ax
      exact⟨_,Z,_,gr,f.k Z,m⟩
     ·refine Ag f Z aA ?_
      refine Al ?_
      obtain rfl:=sj ax
      exact⟨_,Z,_,gr,f.k Z,m⟩
    ·rintro a w ⟨ay,rfl,az,aB,f,m⟩
     have ao:=Ow.mono (RTg.mono (RI.mono _)) aB ao
     refine Af (Af ?_)
     refine AY 16 AI (by kernel_rfl) m ?_
     refine Am 0 16 Z f Z fun a f=>Am 1 16 Z f Z fun a f=>Am 2 16 Z f Z fun a f=>Am 3 16 Z f Z fun a f=>q_p 4 16 Z f (fun _=>AL (f.eval Z) (f.eval Z) As) fun a f=> ?_
     obtain⟨aC,aD,al⟩:=bind_some al
     refine AW 5 16 0 m ao T27 aD Z f Z Z fun aE a aF f=>Bg 6 16 0 ao AO aF aD Z f Z fun aG a aH f=>Am 7 16 Z f Z fun a f=>Am 8 16 Z f Z fun a f=>Am 9 16 Z f Z fun a f=>q_p 10 16 Z f (fun _=>AL (f.eval Z) (f.eval Z) As) fun a f=> ?_
     obtain⟨aI,aJ,al⟩:=bind_some al
     refine AW 11 16 0 m ao T27 aJ Z f Z Z fun aK a aL f=>Bg 12 16 0 ao AO aL aJ Z f Z fun aM a aN f=> ?_
     obtain⟨aO,aP,al⟩:=bind_some al
     refine Cp (i:=13) 16 Z (by kernel_rfl) Z f Z Z Z Z Tryz.call76 (fun _ _ w aQ m=>Wk.b m (rd1 aQ (aH.2)) (rd1 aQ (aN.2)) aP) fun a f=>q_p 14 16 Z f (fun _=>AL (f.eval Z) (f.eval Z) AA) fun a f=>q_p 15 16 Z f (fun _=>Bs (f.eval Z)) fun a f=>AU fun aR w aS m=> ?_
     have aH:=(RTg.mono (RI.mono _)) _ _ _ _ aS aH
     have aN:=(RTg.mono (RI.mono _)) _ _ _ _ aS aN
     have ao:=Ow.mono (RTg.mono (RI.mono _)) aS ao
     refine Aa ?_
     rcases Ae al with⟨aT,al⟩|⟨aT,al⟩
     ·refine Ak f Z aT ?_
      refine Ao ?_
      obtain rfl:=sj al
      obtain rfl:=am _ rfl
      obtain rfl:=sj hd
      exact⟨[],trivial,f.defers,_,[aj],(gt an (gt av (gt aB aS))),m,_,Z,ao⟩
     ·refine Ag f Z aT ?_
      refine Al ?_
      refine Af ?_
      refine Cd AI m ?_
      refine p_p 4 Z (by kernel_rfl) f Z Z Z (fun _=>AM (f.eval Z)) fun a f=>p_p 5 Z (by kernel_rfl) f Z Z Z (fun _=>AM (f.eval Z)) fun a f=>p_p 6 Z (by kernel_rfl) f Z Z Z (fun _=>AM (f.eval Z)) fun a f=>p_p 7 Z (by kernel_rfl) f Z Z Z (fun _=>AL (f.eval Z) (f.eval Z) As) fun a f=>Cb 240021 17 (by kernel_rfl) Z ?_
      refine Am 0 240021 Z f Z fun a f=>Am 1 240021 Z f Z fun a f=>Am 2 240021 Z f Z fun a f=>q_p 3 240021 Z f (fun _=>AL (f.eval Z) (f.eval Z) As) fun a f=>Am 8 240021 Z f Z fun a f=>Am 9 240021 Z f Z fun a f=>Am 10 240021 Z f Z fun a f=>q_p 11 240021 Z f (fun _=>AL (f.eval Z) (f.eval Z) As) fun a f=> ?_
      obtain⟨aU,aV,al⟩:=bind_some al
      refine AW 12 240021 0 m ao T27 aV Z f Z Z fun aW a aX f=>Bg 13 240021 0 ao AO aX aV Z f Z fun aY a aZ f=>Am 14 240021 Z f Z fun a f=>Am 15 240021 Z f Z fun a f=>Am 16 240021 Z f Z fun a f=>q_p 17 240021 Z f (fun _=>AL (f.eval Z) (f.eval Z) As) fun a f=> ?_
      obtain⟨a0,a1,al⟩:=bind_some al
      refine AW 18 240021 0 m ao T27 a1 Z f Z Z fun a2 a a3 f=>Bg 19 240021 0 ao AO a3 a1 Z f Z fun a4 a a5 f=> ?_
      obtain⟨a6,a7,al⟩:=bind_some al
      refine AW 20 240021 0 m ao T27 a7 Z f Z Z fun a8 a a9 f=>AU fun ba w bb m=> ?_
      have aZ:=(RTg.mono (RI.mono _)) _ _ _ _ bb aZ
      have a5:=(RTg.mono (RI.mono _)) _ _ _ _ bb a5
      have ao:=Ow.mono (RTg.mono (RI.mono _)) bb ao
      refine AH 0 m ao Z Tryz.sizeOf31 f Z Z a9 a7 aZ.cells aZ.one1 aZ fun bc w m bd=> ?_
      obtain⟨be,bf,al⟩:=bind_some al
      refine AV 0 m bd Z T27 f Z Z Z bf fun bg a bh f=>AH 0 m bd Z Tryz.sizeOf31 f Z Z bh bf a5.cells a5.one1 a5 fun bi w m bj=>Aa (Ah ?_)
      refine Ab f Z fun a f=>Ad f Z fun a f=>Aa ?_
      obtain rfl:=sj al
      exact⟨_,Z,_,_,Z,_,bi,(gt an (gt av (gt aB (gt aS bb)))),f.k Z,m,bj⟩
   ·intro bk
    rcases Ae ar with⟨bl,ar⟩|⟨bl,ar⟩
    ·refine Am (hw:=wo f bl) 5 22 Z f Z fun a f=> ?_
     refine Am (hw:=wo f bl) 6 22 Z f Z fun a f=>Am (hw:=wo f bl) 7 22 Z f Z fun a f=>Am (hw:=wo f bl) 8 22 Z f Z fun a f=>q_p (hw:=wo f bl) 9 22 Z f (fun _=>AL (f.eval Z) (f.eval Z) As) fun a f=> ?_
     obtain⟨bm,bn,ar⟩:=bind_some ar
     refine AW (hw:=wo f bl) 10 22 0 m ao T27 bn Z f Z Z fun bo a bp f=>Bg (hw:=wo f bl) 11 22 0 ao AO bp bn Z f Z fun bq a br f=>Am (hw:=wo f bl) 12 22 Z f Z fun a f=>Am (hw:=wo f bl) 13 22 Z f Z fun a f=>Am (hw:=wo f bl) 14 22 Z f Z fun a f=>q_p (hw:=wo f bl) 15 22 Z f (fun _=>AL (f.eval Z) (f.eval Z) As) fun a f=>q_p (hw:=wo f bl) 16 22 Z f (fun _=>AL (f.eval Z) (f.eval Z) As) fun a f=> ?_
     obtain⟨bs,bt,ar⟩:=bind_some ar
     refine AW (hw:=wo f bl) 17 22 0 m ao T27 bt Z f Z Z fun bu a bv f=>Bg (hw:=wo f bl) 18 22 0 ao AO bv bt Z f Z fun bw a bx f=> ?_
     obtain⟨bz,bA,ar⟩:=bind_some ar
     refine Cp (i:=19) 22 Z (by kernel_rfl) Z f (Bz f Z Z Z bl) Z Z Z Tryz.call76 (fun _ _ w bB m=>Wk.b m (rd1 bB (br.2)) (rd1 bB (bx.2)) bA) fun a f=>q_p (hw:=wo f bl) 20 22 Z f (fun _=>AL (f.eval Z) (f.eval Z) AA) fun a f=>q_p 21 22 Z f (fun _=>A3 (f.eval Z) bl (f.eval Z)) fun a f=> ?_
     obtain rfl:=sj ar
     exact bk _ (f.k Z)
    ·refine Ax 5 22 Z f bl fun a f=> ?_
     refine Ax 6 22 Z f bl fun a f=>Ax 7 22 Z f bl fun a f=>Ax 8 22 Z f bl fun a f=>Ax 9 22 Z f bl fun a f=>Ax 10 22 Z f bl fun a f=>Ax 11 22 Z f bl fun a f=>Ax 12 22 Z f bl fun a f=>Ax 13 22 Z f bl fun a f=>Ax 14 22 Z f bl fun a f=>Ax 15 22 Z f bl fun a f=>Ax 16 22 Z f bl fun a f=>Ax 17 22 Z f bl fun a f=>Ax 18 22 Z f bl fun a f=>Ax 19 22 Z f bl fun a f=>Ax 20 22 Z f bl fun a f=>q_p 21 22 Z f (fun _=>A2 (f.eval Z) bl (f.eval Z)) fun a f=> ?_
     obtain rfl:=sj ar
     exact bk _ (f.k Z)
 ·rintro a w ⟨_,rfl,ac,rfl,ad,ae,bC,f,m,bD⟩
  obtain rfl:=sj hd
  exact⟨[],trivial,f.defers,_,[ae],bC,m,_,Z,bD⟩
theorem Wk.d1 {W w:World}{G:GH}{H:List Itm}{v0:Value}{it0:Itm}{x0:(List (Value×List Int))}{x1:Int}{x2:Int}(m:Mem W G w (it0::H))(o0:Ow (RTg (RI .i64)) 31 G it0 v0 x0){y:((List (Value×List Int)))}(hd:D.d1 x0 x1 x2=some y):
  Calls Tryz.prog 127 #[v0,(.int .i64 x1),(.int .i64 x2),(.func (.func 76) #[] #[])] w (Res W G H (fun G' Ho _=>∃i0:Itm,Ho=[i0]∧Ow (RTg (RI .i64)) 31 G' i0 v0 y)):=by
 refine Aq (args:=[v0,(.int .i64 x1),(.int .i64 x2),(.func (.func 76) #[] #[])]) (N:=60) [] Tryz.func127 Z Z (Nat.le_of_ble_eq_true Z) Z fun a f=> ?_
 unfold D.d1 at hd
 refine Ac ?_
 refine Ab f Z fun a f=>Ad f Z fun a f=>Aa (Ac ?_)
 refine Ad f Z fun a f=>Aa (Ac ?_)
 refine Ab f Z fun a f=>Ab f Z fun a f=>Ai f Z Z A8 fun a f=>Ad f Z fun a f=>Aa (Af (Ac ?_))
 refine Ab f Z fun a f=>Ai f Z Z A8 fun a f=>Ai f Z Z (b_quo Z) fun a f=>Ad f Z fun a f=>Aa ?_
 obtain⟨aa,ab,hd⟩:=bind_some hd
 refine AF (fun a w=>∃ac:List (Value×List Int),ac=aa∧∃(ad:GH) (ae:Itm),GLe G ad∧Fr a 60 [(0,v0),(3,(.func (.func 76) #[] #[])),(8,(.int .i64 x1)),(9,(.int .i64 0)),(10,(.int .i64 (IntKind.i64.wrap (x2-x1))))]∧Mem W ad w (ae::H)∧Ow (RTg (RI .i64)) 31 ad ae v0 ac) ?_ ?_
 ·refine Aj ?_
  refine AC (fun af a w=>∃ag:List (Value×List Int),∃ah:Int,(ag,ah)=af∧∃(ai:GH) (aj:Itm),GLe G ai∧Fr a 60 [(0,v0),(3,(.func (.func 76) #[] #[])),(8,(.int .i64 x1)),(9,(.int .i64 0)),(10,(.int .i64 (IntKind.i64.wrap (x2-x1)))),(11,(.int .i64 ah))]∧Mem W ai w (aj::H)∧Ow (RTg (RI .i64)) 31 ai aj v0 ag) ab ⟨_,_,Z,_,it0,gr,f.k Z,m,o0⟩ ?_
  clear ab f m
  rintro af ak al am a w ⟨ag,ah,rfl,ai,aj,an,f,m,ao⟩
  refine Af (Ac ?_)
  refine Ab f Z fun a f=>Ai f Z Z Cz fun a f=>Aa ?_
  rcases Ae al with⟨ap,al⟩|⟨ap,al⟩
  ·refine Ak f Z ap ?_
   refine Al ?_
   refine Af (Aj (Ah ?_))
   refine Ab f Z fun a f=>Ab f Z fun a f=>Ab f Z fun a f=>Ab f Z fun a f=>Ab f Z fun a f=> ?_
   obtain⟨aq,ar,al⟩:=bind_some al
   refine AK f Z Tryz.call137 (Wk.U0 m ao ar) fun au av aw w ax m ay a f=> ?_
   obtain⟨az,rfl,aA⟩:=ay
   refine Aa (Ah ?_)
   refine Ab f Z fun a f=>Ai f Z Z A8 fun a f=>Ad f Z fun a f=>Aa ?_
   obtain rfl:=sj al
   exact⟨_,Z,_,_,Z,_,az,(gt an ax),f.k Z,m,aA⟩
  ·refine Ag f Z ap ?_
   refine Aw Z ?_
   obtain rfl:=sj al
   obtain rfl:=am _ rfl
   exact⟨_,Z,_,aj,an,f.k Z,m,ao⟩
 ·rintro a w ⟨ac,rfl,ad,ae,aB,f,m,aC⟩
  refine Ac ?_
  refine Ab f Z fun a f=>Ai f Z Z A8 fun a f=>Ad f Z fun a f=>Aa ?_
  obtain⟨aD,aE,hd⟩:=bind_some hd
  refine AF (fun a w=>∃aF:List (Value×List Int),aF=aD∧∃(aG:GH) (aH:Itm),GLe ad aG∧Fr a 60 []∧Mem W aG w (aH::H)∧Ow (RTg (RI .i64)) 31 aG aH v0 aF) ?_ ?_
  ·refine Aj ?_
   refine AC (fun aI a w=>∃aJ:List (Value×List Int),∃aK:Int,(aJ,aK)=aI∧∃(aL:GH) (aM:Itm),GLe ad aL∧Fr a 60 [(0,v0),(3,(.func (.func 76) #[] #[])),(8,(.int .i64 x1)),(9,(.int .i64 0)),(12,(.int .i64 aK))]∧Mem W aL w (aM::H)∧Ow (RTg (RI .i64)) 31 aL aM v0 aJ) aE ⟨_,_,Z,_,ae,gr,f.k Z,m,aC⟩ ?_
   clear aE f m
   rintro aI aN aO aP a w ⟨aJ,aK,rfl,aL,aM,aQ,f,m,aR⟩
   refine Af (Ac ?_)
   refine Ab f Z fun a f=>Ai f Z Z Cz fun a f=>Aa ?_
   rcases Ae aO with⟨aS,aO⟩|⟨aS,aO⟩
   ·refine Ak f Z aS ?_
    refine Al ?_
    refine Af (Aj (Af ?_))
    refine Cd AI m ?_
    refine p_p 2 Z (by kernel_rfl) f Z Z Z (fun _=>AM (f.eval Z)) fun a f=>p_p 3 Z (by kernel_rfl) f Z Z Z (fun _=>AM (f.eval Z)) fun a f=>p_p 4 Z (by kernel_rfl) f Z Z Z (fun _=>AM (f.eval Z)) fun a f=>p_p 5 Z (by kernel_rfl) f Z Z Z (fun _=>AL (f.eval Z) (f.eval Z) As) fun a f=>Cb 60017 13 (by kernel_rfl) Z ?_
    refine Am 0 60017 Z f Z fun a f=>Am 1 60017 Z f Z fun a f=>Am 6 60017 Z f Z fun a f=>Am 7 60017 Z f Z fun a f=>Am 8 60017 Z f Z fun a f=>q_p 9 60017 Z f (fun _=>AL (f.eval Z) (f.eval Z) As) fun a f=> ?_
    obtain⟨aT,aU,aO⟩:=bind_some aO
    refine AW 10 60017 0 m aR T27 aU Z f Z Z fun aV a aW f=>Bg 11 60017 0 aR AO aW aU Z f Z fun aX a aY f=>Am 12 60017 Z f Z fun a f=>Am 13 60017 Z f Z fun a f=> ?_
    obtain⟨aZ,a0,aO⟩:=bind_some aO
    refine AW 14 60017 0 m aR T27 a0 Z f Z Z fun a1 a a2 f=>Bg 15 60017 0 aR AO a2 a0 Z f Z fun a3 a a4 f=> ?_
    obtain⟨a5,a6,aO⟩:=bind_some aO
    refine AW 16 60017 0 m aR T27 a6 Z f Z Z fun a7 a a8 f=>AU fun a9 w ba m=> ?_
    have aY:=(RTg.mono (RI.mono _)) _ _ _ _ ba aY
    have a4:=(RTg.mono (RI.mono _)) _ _ _ _ ba a4
    have aR:=Ow.mono (RTg.mono (RI.mono _)) ba aR
    refine AH 0 m aR Z Tryz.sizeOf31 f Z Z a8 a6 aY.cells aY.one1 aY fun bb w m bc=> ?_
    obtain⟨bd,be,aO⟩:=bind_some aO
    refine AV 0 m bc Z T27 f Z Z Z be fun bf a bg f=>AH 0 m bc Z Tryz.sizeOf31 f Z Z bg be a4.cells a4.one1 a4 fun bh w m bi=>Aa (Ah ?_)
    refine Ab f Z fun a f=>Ab f Z fun a f=>Ab f Z fun a f=>Ab f Z fun a f=>Ab f Z fun a f=> ?_
    obtain⟨bj,bk,aO⟩:=bind_some aO
    refine AK f Z Tryz.call137 (Wk.U0 m bi bk) fun bl bm bn w bo m bp a f=> ?_
    obtain⟨bq,rfl,br⟩:=bp
    refine Aa (Ah ?_)
    refine Ab f Z fun a f=>Ai f Z Z A8 fun a f=>Ad f Z fun a f=>Aa ?_
    obtain rfl:=sj aO
    exact⟨_,Z,_,_,Z,_,bq,(gt aQ (gt ba bo)),f.k Z,m,br⟩
   ·refine Ag f Z aS ?_
    refine Aw Z ?_
    obtain rfl:=sj aO
    obtain rfl:=aP _ rfl
    exact⟨_,Z,_,aM,aQ,f.weak trivial,m,aR⟩
  ·rintro a w ⟨aF,rfl,aG,aH,bs,f,m,bt⟩
   obtain rfl:=sj hd
   exact⟨[],trivial,f.defers,_,[aH],(gt aB bs),m,_,Z,bt⟩
theorem Wk.t1 {W w:World}{G:GH}{H:List Itm}{v0:Value}{it0:Itm}{x0:(List (Value×List Int))}{x1:Int}{x2:Int}(m:Mem W G w (it0::H))(o0:Ow (RTg (RI .i64)) 31 G it0 v0 x0){y:((List (Value×List Int)))}(hd:D.t1 x0 x1 x2=some y):
  Calls Tryz.prog 128 #[v0,(.int .i64 x1),(.int .i64 x2),(.func (.func 76) #[] #[])] w (Res W G H (fun G' Ho _=>∃i0:Itm,Ho=[i0]∧Ow (RTg (RI .i64)) 31 G' i0 v0 y)):=by
 refine Aq (args:=[v0,(.int .i64 x1),(.int .i64 x2),(.func (.func 76) #[] #[])]) (N:=67) [] Tryz.func128 Z Z (Nat.le_of_ble_eq_true Z) Z fun a f=> ?_
 unfold D.t1 at hd
 refine Ac ?_
 refine Ab f Z fun a f=>Ab f Z fun a f=>Ai f Z Z A8 fun a f=>Ad f Z fun a f=>Aa (Ac ?_)
 refine Ab f Z fun a f=>Ai f Z Z Cz fun a f=>Aa ?_
 rcases Ae hd with⟨aa,hd⟩|⟨aa,hd⟩
 ·refine Ak f Z aa ?_
  refine Ac ?_
  refine Ab f Z fun a f=>l_o f (EB (f.eval Z) ⟨_,Tryz.underlying3⟩ Tryz.underlying148) fun a f=>Bp (cs:=[(.int .u64 0)]) Tryz.zeroValue148 m f Z Z fun ab w a m f=>AG 0 0 (ds:=[(.int .u64 (IntKind.u64.wrap (IntKind.i64.wrap (x2-x1))))]) m Tryz.sizeOf148 f Z Z Z (Av Z AS) Z (Nat.le_of_ble_eq_true Z) Z fun w m=>Aa (Ac ?_)
  refine Ab f Z fun a f=> ?_
  obtain⟨ac,ad,hd⟩:=bind_some hd
  refine Bc f Z Tryz.call138 (Wk.A m ad) fun ae w af m a f=> ?_
  have o0:=Ow.mono (RTg.mono (RI.mono _)) af o0
  refine Ad f Z fun a f=>Aa (Ac ?_)
  refine Ab f Z fun a f=>Ab f Z fun a f=>Ai f Z Z (b_quo Z) fun a f=>Ai f Z Z DW fun a f=>Ai f Z Z As fun a f=>Ai f Z Z A8 fun a f=>Ad f Z fun a f=>Aa ?_
  obtain⟨ag,ah,hd⟩:=bind_some hd
  refine AF (fun a w=>∃ai:List (Value×List Int),ai=ag∧∃(aj:GH) (ak:Itm),GLe ae aj∧Fr a 67 []∧Mem W aj w (ak::H)∧Ow (RTg (RI .i64)) 31 aj ak v0 ai) ?_ ?_
  ·refine Aj ?_
   refine AC (fun al a w=>∃am:List (Value×List Int),∃an:Int,∃ao:Int,(am,an,ao)=al∧∃(ap:GH) (aq:Itm),GLe ae ap∧Fr a 67 [(0,v0),(1,(.int .i64 x1)),(8,(.int .i64 (IntKind.i64.wrap (x2-x1)))),(9,(.pointer (some ⟨ab,0,none⟩))),(10,(.int .u64 ac)),(11,(.int .i64 an))]∧Mem W ap w (Itm.box ab 148 [(.int .u64 ao)]::aq::H)∧Ow (RTg (RI .i64)) 31 ap aq v0 am) ah ⟨_,_,_,Z,_,it0,gr,f.k Z,m,o0⟩ ?_
   clear ah f m
   rintro al ar au av a w ⟨am,an,ao,rfl,ap,aq,aw,f,m,ax⟩
   refine Af (Ac ?_)
   refine Ab f Z fun a f=>Ab f Z fun a f=>Ab f Z fun a f=>Ai f Z Z (b_quo Z) fun a f=>Ai f Z Z DW fun a f=>Ai f Z Z As fun a f=>Ai f Z Z As fun a f=>Ai f Z Z CK fun a f=>Aa ?_
   rcases Ae au with⟨ay,au⟩|⟨ay,au⟩
   ·refine Ak f Z ay ?_
    refine Al ?_
    refine Af (Aj (Ac ?_))
    obtain⟨az,aA,au⟩:=bind_some au
    refine AK f Z Tryz.call139 (Wk.k0 m aA) fun aB aC aD w aE m aF a f=> ?_
    obtain⟨rfl,rfl⟩:=aF
    have ax:=Ow.mono (RTg.mono (RI.mono _)) aE ax
    refine Ab f Z fun a f=>Ai f Z Z A8 fun a f=>Ai f Z Z Er fun a f=>l_o f (EB (f.eval Z) ⟨_,Tryz.underlying95⟩ Tryz.underlying3) fun a f=>Ad f Z fun a f=>Aa (Af (Ac ?_))
    refine Ab f Z fun a f=>Ab f Z fun a f=>Ai f Z Z Cz fun a f=>Aa ?_
    obtain⟨aG,aH,au⟩:=bind_some au
    refine AF (fun a w=>∃aI:Int,aI=aG∧∃(aJ:GH),GLe aC aJ∧Fr a 67 [(0,v0),(1,(.int .i64 x1)),(8,(.int .i64 (IntKind.i64.wrap (x2-x1)))),(9,(.pointer (some ⟨ab,0,none⟩))),(10,(.int .u64 ac)),(11,(.int .i64 an)),(12,(.int .i64 aI))]∧Mem W aJ w (Itm.box ab 148 [(.int .u64 az.2)]::aq::H)) ?_ ?_
    ·rcases Ae aH with⟨aK,aH⟩|⟨aK,aH⟩
     ·refine Ak f Z aK ?_
      refine Ah ?_
      refine Ab f Z fun a f=>Ab f Z fun a f=>Ai f Z Z A8 fun a f=>Ad f Z fun a f=>Aa ?_
      obtain rfl:=sj aH
      exact⟨_,Z,_,gr,f.k Z,m⟩
     ·refine Ag f Z aK ?_
      refine Al ?_
      obtain rfl:=sj aH
      exact⟨_,Z,_,gr,f.k Z,m⟩
    ·rintro a w ⟨aI,rfl,aJ,aL,f,m⟩
     have ax:=Ow.mono (RTg.mono (RI.mono _)) aL ax
     refine Cd AI m ?_
     refine p_p 2 Z (by kernel_rfl) f Z Z Z (fun _=>AM (f.eval Z)) fun a f=>p_p 3 Z (by kernel_rfl) f Z Z Z (fun _=>AM (f.eval Z)) fun a f=>p_p 4 Z (by kernel_rfl) f Z Z Z (fun _=>AM (f.eval Z)) fun a f=>p_p 5 Z (by kernel_rfl) f Z Z Z (fun _=>AL (f.eval Z) (f.eval Z) As) fun a f=>Cb 60017 13 (by kernel_rfl) Z ?_
     refine Am 0 60017 Z f Z fun a f=>Am 1 60017 Z f Z fun a f=>Am 6 60017 Z f Z fun a f=>Am 7 60017 Z f Z fun a f=>Am 8 60017 Z f Z fun a f=>q_p 9 60017 Z f (fun _=>AL (f.eval Z) (f.eval Z) As) fun a f=> ?_
     obtain⟨aM,aN,au⟩:=bind_some au
     refine AW 10 60017 1 m ax T27 aN Z f Z Z fun aO a aP f=>Bg 11 60017 1 ax AO aP aN Z f Z fun aQ a aR f=>Am 12 60017 Z f Z fun a f=>Am 13 60017 Z f Z fun a f=> ?_
     obtain⟨aS,aT,au⟩:=bind_some au
     refine AW 14 60017 1 m ax T27 aT Z f Z Z fun aU a aV f=>Bg 15 60017 1 ax AO aV aT Z f Z fun aW a aX f=> ?_
     obtain⟨aY,aZ,au⟩:=bind_some au
     refine AW 16 60017 1 m ax T27 aZ Z f Z Z fun a0 a a1 f=>AU fun a2 w a3 m=> ?_
     have aR:=(RTg.mono (RI.mono _)) _ _ _ _ a3 aR
     have aX:=(RTg.mono (RI.mono _)) _ _ _ _ a3 aX
     have ax:=Ow.mono (RTg.mono (RI.mono _)) a3 ax
     refine AH 1 m ax Z Tryz.sizeOf31 f Z Z a1 aZ aR.cells aR.one1 aR fun a4 w m a5=> ?_
     obtain⟨a6,a7,au⟩:=bind_some au
     refine AV 1 m a5 Z T27 f Z Z Z a7 fun a8 a a9 f=>AH 1 m a5 Z Tryz.sizeOf31 f Z Z a9 a7 aX.cells aX.one1 aX fun ba w m bb=>Aa (Ah ?_)
     refine Ab f Z fun a f=>Ai f Z Z As fun a f=>Ad f Z fun a f=>Aa ?_
     obtain rfl:=sj au
     exact⟨_,Z,_,_,_,Z,_,ba,(gt aw (gt aE (gt aL a3))),f.k Z,m,bb⟩
   ·refine Ag f Z ay ?_
    refine Aw Z ?_
    have m:=m.front 1 rfl
    have m:=m.eraseAt 1
    obtain rfl:=sj au
    obtain rfl:=av _ rfl
    exact⟨_,Z,_,aq,aw,f.weak trivial,m,ax⟩
  ·rintro a w ⟨ai,rfl,aj,ak,bc,f,m,bd⟩
   obtain rfl:=sj hd
   exact⟨[],trivial,f.defers,_,[ak],(gt af bc),m,_,Z,bd⟩
 ·refine Ag f Z aa ?_
  refine Al ?_
  obtain rfl:=sj hd
  exact⟨[],trivial,f.defers,_,[it0],gr,m,_,Z,o0⟩
theorem Wk.P {W w:World}{G:GH}{H:List Itm}{v0:Value}{it0:Itm}{b3:Nat}{x0:(List (Value×List Int))}{x1:Int}{x2:Int}{x3_0:Int}(m:Mem W G w (it0::Itm.box b3 3 [(.int .i64 x3_0)]::H))(o0:Ow (RTg (RI .i64)) 31 G it0 v0 x0){y:Int×Int×((List (Value×List Int)))×Int}(hd:D.P x0 x1 x2 x3_0=some y):
  Calls Tryz.prog 142 #[v0,(.int .i64 x1),(.int .i64 x2),(.pointer (some ⟨b3,0,none⟩)),(.func (.func 76) #[] #[])] w (Res W G H (fun G' Ho v=>∃i0:Itm,Ho=[i0,Itm.box b3 3 [(.int .i64 y.2.2.2)]]∧v= .tuple #[(.int .i64 y.1),(.int .i64 y.2.1)]∧Ow (RTg (RI .i64)) 31 G' i0 v0 y.2.2.1)):=by
 refine Aq (args:=[v0,(.int .i64 x1),(.int .i64 x2),(.pointer (some ⟨b3,0,none⟩)),(.func (.func 76) #[] #[])]) (N:=32) [.tmp 10,.tmp 11] Tryz.func142 Z Z (Nat.le_of_ble_eq_true Z) Z fun a f=> ?_
 unfold D.P at hd
 refine Ac ?_
 refine Ad f Z fun a f=>Ad f Z fun a f=>Aa (Af (Af ?_))
 refine AY 11 AI (by kernel_rfl) m ?_
 refine Am 0 11 Z f Z fun a f=>Am 1 11 Z f Z fun a f=>Am 2 11 Z f Z fun a f=> ?_
 obtain⟨aa,ab,hd⟩:=bind_some hd
 refine AW 3 11 0 m o0 T27 ab Z f Z Z fun ac a ad f=>Bg 4 11 0 o0 AO ad ab Z f Z fun ae a af f=>Am 5 11 Z f Z fun a f=>Am 6 11 Z f Z fun a f=> ?_
 obtain⟨ag,ah,hd⟩:=bind_some hd
 refine AW 7 11 0 m o0 T27 ah Z f Z Z fun ai a aj f=>Bg 8 11 0 o0 AO aj ah Z f Z fun ak a al f=> ?_
 obtain⟨am,an,hd⟩:=bind_some hd
 refine Cp (i:=9) 11 Z (by kernel_rfl) Z f Z Z Z Z Tryz.call76 (fun _ _ w ao m=>Wk.b m (rd1 ao (af.2)) (rd1 ao (al.2)) an) fun a f=>q_p 10 11 Z f (fun _=>AL (f.eval Z) (f.eval Z) AA) fun a f=>AU fun ap w aq m=> ?_
 have af:=(RTg.mono (RI.mono _)) _ _ _ _ aq af
 have al:=(RTg.mono (RI.mono _)) _ _ _ _ aq al
 have o0:=Ow.mono (RTg.mono (RI.mono _)) aq o0
 refine Aa ?_
 rcases Ae hd with⟨ar,hd⟩|⟨ar,hd⟩
 ·refine Ak f Z ar ?_
  refine Ac ?_
  refine Ab f Z fun a f=>l_o f (By (f.eval Z)) fun a f=>Ay 1 0 m Pl3 f Z Z Z Z fun a f=>Ai f Z Z As fun a f=>l_o f (By (f.eval Z)) fun a f=>AG 1 0 (ds:=[(.int .i64 (IntKind.i64.wrap (x3_0+1)))]) m Tryz.sizeOf3 f Z Z Z (Av Z AS) Z (Nat.le_of_ble_eq_true Z) Z fun w m=>Aa (Ac ?_)
  refine Ab f Z fun a f=>Ab f Z fun a f=>Ad f Z fun a f=>Ad f Z fun a f=>Aa ?_
  refine Ao ?_
  obtain rfl:=sj hd
  exact⟨[(.int .i64 x2),(.int .i64 x1)],⟨f.get _ _ Z,f.get _ _ Z,trivial⟩,f.defers,_,[it0,Itm.box b3 3 [(.int .i64 (IntKind.i64.wrap (x3_0+1)))]],aq,m,_,Z,Z,o0⟩
 ·refine Ag f Z ar ?_
  refine Al ?_
  refine Ac ?_
  refine Ab f Z fun a f=>Ab f Z fun a f=>Ad f Z fun a f=>Ad f Z fun a f=>Aa ?_
  refine Ao ?_
  obtain rfl:=sj hd
  exact⟨[(.int .i64 x1),(.int .i64 x2)],⟨f.get _ _ Z,f.get _ _ Z,trivial⟩,f.defers,_,[it0,Itm.box b3 3 [(.int .i64 x3_0)]],aq,m,_,Z,Z,o0⟩
theorem Wk.s0 {W w:World}{G:GH}{H:List Itm}{v0:Value}{it0:Itm}{b4:Nat}{x0:(List (Value×List Int))}{x1:Int}{x2:Int}{x3:Int}{x4_0:Int}(m:Mem W G w (it0::Itm.box b4 3 [(.int .i64 x4_0)]::H))(o0:Ow (RTg (RI .i64)) 31 G it0 v0 x0){y:Int×((List (Value×List Int)))×Int}(hd:D.s0 x0 x1 x2 x3 x4_0=some y):
  Calls Tryz.prog 141 #[v0,(.int .i64 x1),(.int .i64 x2),(.int .i64 x3),(.pointer (some ⟨b4,0,none⟩)),(.func (.func 76) #[] #[])] w (Res W G H (fun G' Ho v=>∃i0:Itm,Ho=[i0,Itm.box b4 3 [(.int .i64 y.2.2)]]∧v=(.int .i64 y.1)∧Ow (RTg (RI .i64)) 31 G' i0 v0 y.2.1)):=by
 refine Aq (args:=[v0,(.int .i64 x1),(.int .i64 x2),(.int .i64 x3),(.pointer (some ⟨b4,0,none⟩)),(.func (.func 76) #[] #[])]) (N:=41) [.tmp 12] Tryz.func141 Z Z (Nat.le_of_ble_eq_true Z) Z fun a f=> ?_
 unfold D.s0 at hd
 refine Ac ?_
 refine Ad f Z fun a f=>Aa (Ac ?_)
 refine Ab f Z fun a f=>Ab f Z fun a f=>Ab f Z fun a f=>Ab f Z fun a f=>Ab f Z fun a f=> ?_
 obtain⟨aa,ab,hd⟩:=bind_some hd
 refine AK f Z Tryz.call142 (Wk.P m o0 ab) fun ac ad ae w af m ag a f=> ?_
 obtain⟨ah,rfl,rfl,ai⟩:=ag
 refine Ab f Z fun a f=>l_o f (A9 (f.eval Z) Z) fun a f=>l_o f (A9 (f.eval Z) Z) fun a f=>Ad f Z fun a f=>Ad f Z fun a f=>Aa (Ac ?_)
 refine Ab f Z fun a f=>Ab f Z fun a f=>Ab f Z fun a f=>Ab f Z fun a f=>Ab f Z fun a f=> ?_
 obtain⟨aj,ak,hd⟩:=bind_some hd
 refine AK f Z Tryz.call142 (Wk.P m ai ak) fun al am an w ao m ap a f=> ?_
 obtain⟨aq,rfl,rfl,ar⟩:=ap
 refine Ab f Z fun a f=>l_o f (A9 (f.eval Z) Z) fun a f=>l_o f (A9 (f.eval Z) Z) fun a f=>Ad f Z fun a f=>Ad f Z fun a f=>Aa (Ac ?_)
 refine Ab f Z fun a f=>Ab f Z fun a f=>Ab f Z fun a f=>Ab f Z fun a f=>Ab f Z fun a f=> ?_
 obtain⟨au,av,hd⟩:=bind_some hd
 refine AK f Z Tryz.call142 (Wk.P m ar av) fun aw ax ay w az m aA a f=> ?_
 obtain⟨aB,rfl,rfl,aC⟩:=aA
 refine Ab f Z fun a f=>l_o f (A9 (f.eval Z) Z) fun a f=>l_o f (A9 (f.eval Z) Z) fun a f=>Ad f Z fun a f=>Ad f Z fun a f=>Aa (Ac ?_)
 refine Ab f Z fun a f=>Ad f Z fun a f=>Aa ?_
 refine Ao ?_
 obtain rfl:=sj hd
 exact⟨[(.int .i64 au.2.1)],⟨f.get _ _ Z,trivial⟩,f.defers,_,[aB,Itm.box b4 3 [(.int .i64 au.2.2.2)]],(gt af (gt ao az)),m,_,Z,Z,aC⟩
theorem Wk.f0 {W w:World}{G:GH}{H:List Itm}{v0:Value}{it0:Itm}{b2:Nat}{x0:(List (Value×List Int))}{x1:Int}{x2_0:Int}(m:Mem W G w (it0::Itm.box b2 3 [(.int .i64 x2_0)]::H))(o0:Ow (RTg (RI .i64)) 31 G it0 v0 x0){y:Int×((List (Value×List Int)))×Int}(hd:D.f0 x0 x1 x2_0=some y):
  Calls Tryz.prog 140 #[v0,(.int .i64 x1),(.pointer (some ⟨b2,0,none⟩)),(.func (.func 76) #[] #[])] w (Res W G H (fun G' Ho v=>∃i0:Itm,Ho=[i0,Itm.box b2 3 [(.int .i64 y.2.2)]]∧v=(.int .i64 y.1)∧Ow (RTg (RI .i64)) 31 G' i0 v0 y.2.1)):=by
 refine Aq (args:=[v0,(.int .i64 x1),(.pointer (some ⟨b2,0,none⟩)),(.func (.func 76) #[] #[])]) (N:=18) [.tmp 8] Tryz.func140 Z Z (Nat.le_of_ble_eq_true Z) Z fun a f=> ?_
 unfold D.f0 at hd
 refine Ac ?_
 refine Ad f Z fun a f=>Aa (Ac ?_)
 refine Ab f Z fun a f=>Ab f Z fun a f=>Ai f Z Z A8 fun a f=>Ab f Z fun a f=>Ab f Z fun a f=>Ai f Z Z As fun a f=>Ab f Z fun a f=>Ab f Z fun a f=> ?_
 obtain⟨aa,ab,hd⟩:=bind_some hd
 refine AK f Z Tryz.call141 (Wk.s0 m o0 ab) fun ac ad ae w af m ag a f=> ?_
 obtain⟨ah,rfl,rfl,ai⟩:=ag
 refine Ad f Z fun a f=>Aa ?_
 refine Ao ?_
 obtain rfl:=sj hd
 exact⟨[(.int .i64 aa.1)],⟨f.get _ _ Z,trivial⟩,f.defers,_,[ah,Itm.box b2 3 [(.int .i64 aa.2.2)]],af,m,_,Z,Z,ai⟩
theorem Wk.c1 {W w:World}{G:GH}{H:List Itm}{v0:Value}{it0:Itm}{x0:(List (Value×List Int))}{x1:Int}{x2:Int}(m:Mem W G w (it0::H))(o0:Ow (RTg (RI .i64)) 31 G it0 v0 x0){y:Int×Int×((List (Value×List Int)))}(hd:D.c1 x0 x1 x2=some y):
  Calls Tryz.prog 129 #[v0,(.int .i64 x1),(.int .i64 x2),(.func (.func 76) #[] #[])] w (Res W G H (fun G' Ho v=>∃i0:Itm,Ho=[i0]∧v= .tuple #[(.int .i64 y.1),(.int .i64 y.2.1)]∧Ow (RTg (RI .i64)) 31 G' i0 v0 y.2.2)):=by
 refine Aq (args:=[v0,(.int .i64 x1),(.int .i64 x2),(.func (.func 76) #[] #[])]) (N:=63) [.tmp 8,.tmp 9] Tryz.func129 Z Z (Nat.le_of_ble_eq_true Z) Z fun a f=> ?_
 unfold D.c1 at hd
 refine Ac ?_
 refine Ad f Z fun a f=>Ad f Z fun a f=>Aa (Ac ?_)
 refine Ab f Z fun a f=>Ab f Z fun a f=>Ai f Z Z A8 fun a f=>Ad f Z fun a f=>Aa (Ac ?_)
 refine Bp (cs:=[(.int .i64 0)]) Tryz.zeroValue3 m f Z Z fun aa w a m f=>Aa (Ac ?_)
 refine Ab f Z fun a f=>Ab f Z fun a f=>Ai f Z Z (b_quo Z) fun a f=>Ai f Z Z DW fun a f=>Ai f Z Z As fun a f=>Ad f Z fun a f=>Aa (Ac ?_)
 refine Ab f Z fun a f=>Ab f Z fun a f=>Ai f Z Z (b_quo Z) fun a f=>Ai f Z Z DW fun a f=>Ai f Z Z As fun a f=>Ad f Z fun a f=>Aa (Ac ?_)
 refine Ab f Z fun a f=>Ab f Z fun a f=>Ai f Z Z (b_quo Z) fun a f=>Ai f Z Z DW fun a f=>Ai f Z Z As fun a f=>Ad f Z fun a f=>Aa (Af (Ac ?_))
 refine Ab f Z fun a f=>Ai f Z Z Cz fun a f=>Aa ?_
 rcases Ae hd with⟨ab,hd⟩|⟨ab,hd⟩
 ·refine Ak f Z ab ?_
  refine Af (Ac ?_)
  refine Ab f Z fun a f=>Ai f Z Z Cz fun a f=>Aa ?_
  obtain⟨ac,ad,hd⟩:=bind_some hd
  refine AF (fun a w=>∃ae:List (Value×List Int),∃af:Int,∃ag:Int,∃ah:Int,∃ai:Int,(ae,af,ag,ah,ai)=ac∧∃(aj:GH) (ak:Itm),GLe G aj∧Fr a 63 [(0,v0),(3,(.func (.func 76) #[] #[])),(11,(.pointer (some ⟨aa,0,none⟩))),(12,(.int .i64 af)),(13,(.int .i64 ag)),(14,(.int .i64 ah))]∧Mem W aj w (Itm.box aa 3 [(.int .i64 ai)]::ak::H)∧Ow (RTg (RI .i64)) 31 aj ak v0 ae) ?_ ?_
  ·rcases Ae ad with⟨al,ad⟩|⟨al,ad⟩
   ·refine Ak f Z al ?_
    refine Ac ?_
    refine Ab f Z fun a f=>Ab f Z fun a f=>Ab f Z fun a f=> ?_
    have m:=m.front 1 rfl
    obtain⟨am,an,ad⟩:=bind_some ad
    refine AK f Z Tryz.call140 (Wk.f0 m o0 an) fun ao ap aq w ar m au a f=> ?_
    obtain⟨av,rfl,rfl,aw⟩:=au
    refine Ad f Z fun a f=>Aa (Ac ?_)
    refine Ab f Z fun a f=>Ab f Z fun a f=>Ab f Z fun a f=> ?_
    obtain⟨ax,ay,ad⟩:=bind_some ad
    refine AK f Z Tryz.call140 (Wk.f0 m aw ay) fun az aA aB w aC m aD a f=> ?_
    obtain⟨aE,rfl,rfl,aF⟩:=aD
    refine Ad f Z fun a f=>Aa (Ah ?_)
    refine Ab f Z fun a f=>Ab f Z fun a f=>Ab f Z fun a f=> ?_
    obtain⟨aG,aH,ad⟩:=bind_some ad
    refine AK f Z Tryz.call140 (Wk.f0 m aF aH) fun aI aJ aK w aL m aM a f=> ?_
    obtain⟨aN,rfl,rfl,aO⟩:=aM
    refine Ad f Z fun a f=>Aa ?_
    have m:=m.front 1 rfl
    obtain rfl:=sj ad
    exact⟨_,_,_,_,_,Z,_,aN,(gt ar (gt aC aL)),f.k Z,m,aO⟩
   ·refine Ag f Z al ?_
    refine Al ?_
    obtain rfl:=sj ad
    exact⟨_,_,_,_,_,Z,_,it0,gr,f.k Z,m,o0⟩
  ·rintro a w ⟨ae,af,ag,ah,ai,rfl,aj,ak,aP,f,m,aQ⟩
   refine Ah ?_
   refine Ab f Z fun a f=>Ab f Z fun a f=>Ab f Z fun a f=>Ab f Z fun a f=>Ab f Z fun a f=> ?_
   have m:=m.front 1 rfl
   obtain⟨aR,aS,hd⟩:=bind_some hd
   refine AK f Z Tryz.call141 (Wk.s0 m aQ aS) fun aT aU aV w aW m aX a f=> ?_
   obtain⟨aY,rfl,rfl,aZ⟩:=aX
   refine Ad f Z fun a f=>Aa (Ac ?_)
   refine Ay 1 0 m Pl3 f Z Z Z Z fun a f=>Aa (Aj (Ac ?_))
   refine Ai f Z Z BH fun a f=>Ad f Z fun a f=>Aa ?_
   rcases Ae hd with⟨a0,hd⟩|⟨a0,hd⟩
   ·refine Ak f Z a0 ?_
    refine Ac ?_
    refine Ab f Z fun a f=>Ad f Z fun a f=>Ad f Z fun a f=>Aa ?_
    refine Ao ?_
    have m:=m.eraseAt 1
    obtain rfl:=sj hd
    exact⟨[(.int .i64 aR.1),(.int .i64 1)],⟨f.get _ _ Z,f.get _ _ Z,trivial⟩,f.defers,_,[aY],(gt aP aW),m,_,Z,Z,aZ⟩
   ·refine Ag f Z a0 ?_
    refine Ac ?_
    refine Ai f Z Z BH fun a f=>Ad f Z fun a f=>Aa ?_
    rcases Ae hd with⟨a1,hd⟩|⟨a1,hd⟩
    ·refine Ak f Z a1 ?_
     refine Ac ?_
     refine Ab f Z fun a f=>Ad f Z fun a f=>Ad f Z fun a f=>Aa ?_
     refine Ao ?_
     have m:=m.eraseAt 1
     obtain rfl:=sj hd
     exact⟨[(.int .i64 aR.1),(.int .i64 2)],⟨f.get _ _ Z,f.get _ _ Z,trivial⟩,f.defers,_,[aY],(gt aP aW),m,_,Z,Z,aZ⟩
    ·refine Ag f Z a1 ?_
     refine Ac ?_
     refine Ab f Z fun a f=>Ad f Z fun a f=>Ad f Z fun a f=>Aa ?_
     refine Ao ?_
     have m:=m.eraseAt 1
     obtain rfl:=sj hd
     exact⟨[(.int .i64 aR.1),(.int .i64 0)],⟨f.get _ _ Z,f.get _ _ Z,trivial⟩,f.defers,_,[aY],(gt aP aW),m,_,Z,Z,aZ⟩
 ·refine Ag f Z ab ?_
  refine Al ?_
  refine Ac ?_
  refine Ay 0 0 m Pl3 f Z Z Z Z fun a f=>Aa (Aj (Ac ?_))
  refine Ai f Z Z BH fun a f=>Ad f Z fun a f=>Aa ?_
  rcases Ae hd with⟨a2,hd⟩|⟨a2,hd⟩
  ·refine Ak f Z a2 ?_
   refine Ac ?_
   refine Ab f Z fun a f=>Ad f Z fun a f=>Ad f Z fun a f=>Aa ?_
   refine Ao ?_
   have m:=m.front 1 rfl
   have m:=m.eraseAt 1
   obtain rfl:=sj hd
   exact⟨[(.int .i64 (IntKind.i64.wrap (x1+(IntKind.i64.wrap ((IntKind.i64.wrap (Int.tdiv (IntKind.i64.wrap (x2-x1)) 4))*2))))),(.int .i64 1)],⟨f.get _ _ Z,f.get _ _ Z,trivial⟩,f.defers,_,[it0],gr,m,_,Z,Z,o0⟩
  ·refine Ag f Z a2 ?_
   refine Ac ?_
   refine Ai f Z Z BH fun a f=>Ad f Z fun a f=>Aa ?_
   rcases Ae hd with⟨a3,hd⟩|⟨a3,hd⟩
   ·refine Ak f Z a3 ?_
    refine Ac ?_
    refine Ab f Z fun a f=>Ad f Z fun a f=>Ad f Z fun a f=>Aa ?_
    refine Ao ?_
    have m:=m.front 1 rfl
    have m:=m.eraseAt 1
    obtain rfl:=sj hd
    exact⟨[(.int .i64 (IntKind.i64.wrap (x1+(IntKind.i64.wrap ((IntKind.i64.wrap (Int.tdiv (IntKind.i64.wrap (x2-x1)) 4))*2))))),(.int .i64 2)],⟨f.get _ _ Z,f.get _ _ Z,trivial⟩,f.defers,_,[it0],gr,m,_,Z,Z,o0⟩
   ·refine Ag f Z a3 ?_
    refine Ac ?_
    refine Ab f Z fun a f=>Ad f Z fun a f=>Ad f Z fun a f=>Aa ?_
    refine Ao ?_
    have m:=m.front 1 rfl
    have m:=m.eraseAt 1
    obtain rfl:=sj hd
    exact⟨[(.int .i64 (IntKind.i64.wrap (x1+(IntKind.i64.wrap ((IntKind.i64.wrap (Int.tdiv (IntKind.i64.wrap (x2-x1)) 4))*2))))),(.int .i64 0)],⟨f.get _ _ Z,f.get _ _ Z,trivial⟩,f.defers,_,[it0],gr,m,_,Z,Z,o0⟩
theorem Wk.l1 {W w:World}{G:GH}{H:List Itm}{v0:Value}{it0:Itm}{x0:(List (Value×List Int))}{x1:Int}{x2:Int}(m:Mem W G w (it0::H))(o0:Ow (RTg (RI .i64)) 31 G it0 v0 x0){y:((List (Value×List Int)))}(hd:D.l1 x0 x1 x2=some y):
  Calls Tryz.prog 130 #[v0,(.int .i64 x1),(.int .i64 x2),(.func (.func 76) #[] #[])] w (Res W G H (fun G' Ho _=>∃i0:Itm,Ho=[i0]∧Ow (RTg (RI .i64)) 31 G' i0 v0 y)):=by
 refine Aq (args:=[v0,(.int .i64 x1),(.int .i64 x2),(.func (.func 76) #[] #[])]) (N:=34) [] Tryz.func130 Z Z (Nat.le_of_ble_eq_true Z) Z fun a f=> ?_
 unfold D.l1 at hd
 refine Ac ?_
 refine Ab f Z fun a f=>Ad f Z fun a f=>Aa (Ac ?_)
 refine Ab f Z fun a f=>Ai f Z Z A8 fun a f=>Ad f Z fun a f=>Aa ?_
 obtain⟨aa,ab,hd⟩:=bind_some hd
 refine AF (fun a w=>∃ac:List (Value×List Int),ac=aa∧∃(ad:GH) (ae:Itm),GLe G ad∧Fr a 34 []∧Mem W ad w (ae::H)∧Ow (RTg (RI .i64)) 31 ad ae v0 ac) ?_ ?_
 ·refine Aj ?_
  refine AC (fun af a w=>∃ag:List (Value×List Int),∃ah:Int,∃ai:Int,(ag,ah,ai)=af∧∃(aj:GH) (ak:Itm),GLe G aj∧Fr a 34 [(0,v0),(8,(.int .i64 ah)),(9,(.int .i64 ai))]∧Mem W aj w (ak::H)∧Ow (RTg (RI .i64)) 31 aj ak v0 ag) ab ⟨_,_,_,Z,_,it0,gr,f.k Z,m,o0⟩ ?_
  clear ab f m
  rintro af al am an a w ⟨ag,ah,ai,rfl,aj,ak,ao,f,m,ap⟩
  refine Af (Ac ?_)
  refine Ab f Z fun a f=>Ab f Z fun a f=>Ai f Z Z AA fun a f=>Aa ?_
  rcases Ae am with⟨aq,am⟩|⟨aq,am⟩
  ·refine Ak f Z aq ?_
   refine Al ?_
   refine Aj (Af ?_)
   refine Cd AI m ?_
   refine p_p 2 Z (by kernel_rfl) f Z Z Z (fun _=>AM (f.eval Z)) fun a f=>p_p 3 Z (by kernel_rfl) f Z Z Z (fun _=>AM (f.eval Z)) fun a f=>Cb 12013 11 (by kernel_rfl) Z ?_
   refine Am 0 12013 Z f Z fun a f=>Am 1 12013 Z f Z fun a f=>Am 4 12013 Z f Z fun a f=>Am 5 12013 Z f Z fun a f=> ?_
   obtain⟨ar,au,am⟩:=bind_some am
   refine AW 6 12013 0 m ap T27 au Z f Z Z fun av a aw f=>Bg 7 12013 0 ap AO aw au Z f Z fun ax a ay f=>Am 8 12013 Z f Z fun a f=>Am 9 12013 Z f Z fun a f=> ?_
   obtain⟨az,aA,am⟩:=bind_some am
   refine AW 10 12013 0 m ap T27 aA Z f Z Z fun aB a aC f=>Bg 11 12013 0 ap AO aC aA Z f Z fun aD a aE f=> ?_
   obtain⟨aF,aG,am⟩:=bind_some am
   refine AW 12 12013 0 m ap T27 aG Z f Z Z fun aH a aI f=>AU fun aJ w aK m=> ?_
   have ay:=(RTg.mono (RI.mono _)) _ _ _ _ aK ay
   have aE:=(RTg.mono (RI.mono _)) _ _ _ _ aK aE
   have ap:=Ow.mono (RTg.mono (RI.mono _)) aK ap
   refine AH 0 m ap Z Tryz.sizeOf31 f Z Z aI aG ay.cells ay.one1 ay fun aL w m aM=> ?_
   obtain⟨aN,aO,am⟩:=bind_some am
   refine AV 0 m aM Z T27 f Z Z Z aO fun aP a aQ f=>AH 0 m aM Z Tryz.sizeOf31 f Z Z aQ aO aE.cells aE.one1 aE fun aR w m aS=>Aa (Ac ?_)
   refine Ab f Z fun a f=>Ai f Z Z As fun a f=>Ad f Z fun a f=>Aa (Ah ?_)
   refine Ab f Z fun a f=>Ai f Z Z A8 fun a f=>Ad f Z fun a f=>Aa ?_
   obtain rfl:=sj am
   exact⟨_,Z,_,_,_,Z,_,aR,(gt ao aK),f.k Z,m,aS⟩
  ·refine Ag f Z aq ?_
   refine Aw Z ?_
   obtain rfl:=sj am
   obtain rfl:=an _ rfl
   exact⟨_,Z,_,ak,ao,f.weak trivial,m,ap⟩
 ·rintro a w ⟨ac,rfl,ad,ae,aT,f,m,aU⟩
  obtain rfl:=sj hd
  exact⟨[],trivial,f.defers,_,[ae],aT,m,_,Z,aU⟩
theorem Wk.s1 {W w:World}{G:GH}{H:List Itm}{v0:Value}{it0:Itm}{x0:(List (Value×List Int))}{x1:Int}{x2:Int}(m:Mem W G w (it0::H))(o0:Ow (RTg (RI .i64)) 31 G it0 v0 x0){y:Bool×((List (Value×List Int)))}(hd:D.s1 x0 x1 x2=some y):
  Calls Tryz.prog 131 #[v0,(.int .i64 x1),(.int .i64 x2),(.func (.func 76) #[] #[])] w (Res W G H (fun G' Ho v=>∃i0:Itm,Ho=[i0]∧v=(.bool y.1)∧Ow (RTg (RI .i64)) 31 G' i0 v0 y.2)):=by
 refine Aq (args:=[v0,(.int .i64 x1),(.int .i64 x2),(.func (.func 76) #[] #[])]) (N:=141) [.tmp 8] Tryz.func131 Z Z (Nat.le_of_ble_eq_true Z) Z fun a f=> ?_
 unfold D.s1 at hd
 refine Ac ?_
 refine Ad f Z fun a f=>Aa (Ac ?_)
 refine Ab f Z fun a f=>Ai f Z Z As fun a f=>Ad f Z fun a f=>Aa (Af (Ac ?_))
 refine Ad f Z fun a f=>Aa ?_
 obtain⟨aa,ab,hd⟩:=bind_some hd
 refine AF (fun a w=>∃q_1621':(List (Value×List Int)),aa= .inl q_1621'∧∃ac:List (Value×List Int),ac=q_1621'∧∃(ad:GH) (ae:Itm),GLe G ad∧Fr a 141 []∧Mem W ad w (ae::H)∧Ow (RTg (RI .i64)) 31 ad ae v0 ac) ?_ ?_
 ·refine Aj ?_
  refine AC (fun af a w=>∃ag:List (Value×List Int),∃ah:Int,∃ai:Int,(ag,ah,ai)=af∧∃(aj:GH) (ak:Itm),GLe G aj∧Fr a 141 [(0,v0),(1,(.int .i64 x1)),(2,(.int .i64 x2)),(3,(.func (.func 76) #[] #[])),(9,(.int .i64 ah)),(10,(.int .i64 ai))]∧Mem W aj w (ak::H)∧Ow (RTg (RI .i64)) 31 aj ak v0 ag) ab ⟨_,_,_,Z,_,it0,gr,f.k Z,m,o0⟩ ?_
  clear ab f m
  rintro af al am an a w ⟨ag,ah,ai,rfl,aj,ak,ao,f,m,ap⟩
  refine Af (Ac ?_)
  refine Ab f Z fun a f=>Ai f Z Z AA fun a f=>Aa ?_
  rcases Ae am with⟨aq,am⟩|⟨aq,am⟩
  ·refine Ak f Z aq ?_
   refine Al ?_
   refine Af (Aj (Af ?_))
   obtain⟨ar,au,am⟩:=bind_some am
   refine AF (fun a w=>∃av:Int,av=ar∧∃(aw:GH),GLe aj aw∧Fr a 141 [(0,v0),(1,(.int .i64 x1)),(2,(.int .i64 x2)),(3,(.func (.func 76) #[] #[])),(9,(.int .i64 av)),(10,(.int .i64 ai))]∧Mem W aw w (ak::H)) ?_ ?_
   ·refine Aj ?_
    refine AC (fun ax a w=>∃ay:Int,ay=ax∧∃(az:GH),GLe aj az∧Fr a 141 [(0,v0),(1,(.int .i64 x1)),(2,(.int .i64 x2)),(3,(.func (.func 76) #[] #[])),(9,(.int .i64 ay)),(10,(.int .i64 ai))]∧Mem W az w (ak::H)) au ⟨_,Z,_,gr,f.k Z,m⟩ ?_
    clear au f m
    rintro ax aA aB aC a w ⟨ay,rfl,az,aD,f,m⟩
    have ap:=Ow.mono (RTg.mono (RI.mono _)) aD ap
    refine Af (Af ?_)
    refine AY 18 AI (by kernel_rfl) m ?_
    refine Am 0 18 Z f Z fun a f=>Am 1 18 Z f Z fun a f=>q_p 2 18 Z f (fun _=>AL (f.eval Z) (f.eval Z) AA) fun a f=>Am 3 18 Z f Z fun a f=> ?_
    obtain⟨aE,aF,aB⟩:=bind_some aB
    refine CY (fuel':=0) (listed':= #[true,true,true,true,true,true,true,true,true,true,true,true,true,true,true,true,true,true]) (fun a=>Fr a 141 [(0,v0),(1,(.int .i64 x1)),(2,(.int .i64 x2)),(3,(.func (.func 76) #[] #[])),(9,(.int .i64 ay)),(10,(.int .i64 ai)),(19,(.int .i64 ay)),(20,(.int .i64 x2)),(21,(.bool (decide (ay<x2)))),(22,(.bool (decide (ay<x2)))),(36,(.bool aE))]) ?_ ?_
    ·intro a f
     refine AU fun aG w aH m=> ?_
     have ap:=Ow.mono (RTg.mono (RI.mono _)) aH ap
     refine Aa ?_
     rcases Ae aB with⟨aI,aB⟩|⟨aI,aB⟩
     ·refine Ak f Z aI ?_
      refine Al ?_
      refine Aj (Ah ?_)
      refine Ab f Z fun a f=>Ai f Z Z As fun a f=>Ad f Z fun a f=>Aa ?_
      obtain rfl:=sj aB
      exact⟨_,Z,_,Z,_,(gt aD aH),f.k Z,m⟩
     ·refine Ag f Z aI ?_
      refine Aw Z ?_
      obtain rfl:=sj aB
      obtain rfl:=aC _ rfl
      exact⟨_,Z,_,(gt aD aH),f.k Z,m⟩
    ·intro aJ
     rcases Ae aF with⟨aK,aF⟩|⟨aK,aF⟩
     ·refine Am (hw:=wo f aK) 4 18 Z f Z fun a f=> ?_
      refine Am (hw:=wo f aK) 5 18 Z f Z fun a f=>Am (hw:=wo f aK) 6 18 Z f Z fun a f=> ?_
      obtain⟨aL,aM,aF⟩:=bind_some aF
      refine AW (hw:=wo f aK) 7 18 0 m ap T27 aM Z f Z Z fun aN a aO f=>Bg (hw:=wo f aK) 8 18 0 ap AO aO aM Z f Z fun aP a aQ f=>Am (hw:=wo f aK) 9 18 Z f Z fun a f=>Am (hw:=wo f aK) 10 18 Z f Z fun a f=>q_p (hw:=wo f aK) 11 18 Z f (fun _=>AL (f.eval Z) (f.eval Z) A8) fun a f=> ?_
      obtain⟨aR,aS,aF⟩:=bind_some aF
      refine AW (hw:=wo f aK) 12 18 0 m ap T27 aS Z f Z Z fun aT a aU f=>Bg (hw:=wo f aK) 13 18 0 ap AO aU aS Z f Z fun aV a aW f=> ?_
      obtain⟨aX,aY,aF⟩:=bind_some aF
      refine Cp (i:=14) 18 Z (by kernel_rfl) Z f (Bz f Z Z Z aK) Z Z Z Tryz.call76 (fun _ _ w aZ m=>Wk.b m (rd1 aZ (aQ.2)) (rd1 aZ (aW.2)) aY) fun a f=>q_p (hw:=wo f aK) 15 18 Z f (fun _=>AL (f.eval Z) (f.eval Z) AA) fun a f=>q_p (hw:=wo f aK) 16 18 Z f (fun _=>Bs (f.eval Z)) fun a f=>q_p 17 18 Z f (fun _=>A3 (f.eval Z) aK (f.eval Z)) fun a f=> ?_
      obtain rfl:=sj aF
      exact aJ _ (f.k Z)
     ·refine Ax 4 18 Z f aK fun a f=> ?_
      refine Ax 5 18 Z f aK fun a f=>Ax 6 18 Z f aK fun a f=>Ax 7 18 Z f aK fun a f=>Ax 8 18 Z f aK fun a f=>Ax 9 18 Z f aK fun a f=>Ax 10 18 Z f aK fun a f=>Ax 11 18 Z f aK fun a f=>Ax 12 18 Z f aK fun a f=>Ax 13 18 Z f aK fun a f=>Ax 14 18 Z f aK fun a f=>Ax 15 18 Z f aK fun a f=>Ax 16 18 Z f aK fun a f=>q_p 17 18 Z f (fun _=>A2 (f.eval Z) aK (f.eval Z)) fun a f=> ?_
      obtain rfl:=sj aF
      exact aJ _ (f.k Z)
   ·rintro a w ⟨av,rfl,aw,a0,f,m⟩
    have ap:=Ow.mono (RTg.mono (RI.mono _)) a0 ap
    refine Af (Ac ?_)
    refine Ab f Z fun a f=>Ab f Z fun a f=>Ai f Z Z BH fun a f=>Aa ?_
    rcases Ae am with⟨a1,am⟩|⟨a1,am⟩
    ·refine Ak f Z a1 ?_
     refine Ac ?_
     refine Ad f Z fun a f=>Aa ?_
     refine Ao ?_
     obtain rfl:=sj am
     obtain rfl:=an _ rfl
     obtain rfl:=sj hd
     exact⟨[(.bool true)],⟨f.get _ _ Z,trivial⟩,f.defers,_,[ak],(gt ao a0),m,_,Z,Z,ap⟩
    ·refine Ag f Z a1 ?_
     refine Al ?_
     refine Af (Ac ?_)
     refine Ab f Z fun a f=>Ab f Z fun a f=>Ai f Z Z A8 fun a f=>Ai f Z Z AA fun a f=>Aa ?_
     rcases Ae am with⟨a2,am⟩|⟨a2,am⟩
     ·refine Ak f Z a2 ?_
      refine Ac ?_
      refine Ad f Z fun a f=>Aa ?_
      refine Ao ?_
      obtain rfl:=sj am
      obtain rfl:=an _ rfl
      obtain rfl:=sj hd
      exact⟨[(.bool false)],⟨f.get _ _ Z,trivial⟩,f.defers,_,[ak],(gt ao a0),m,_,Z,Z,ap⟩
     ·refine Ag f Z a2 ?_
      refine Al ?_
      refine Af ?_
      refine Cd AI m ?_
      refine p_p 2 Z (by kernel_rfl) f Z Z Z (fun _=>AM (f.eval Z)) fun a f=>p_p 3 Z (by kernel_rfl) f Z Z Z (fun _=>AM (f.eval Z)) fun a f=>p_p 4 Z (by kernel_rfl) f Z Z Z (fun _=>AL (f.eval Z) (f.eval Z) A8) fun a f=>Cb 28015 12 (by kernel_rfl) Z ?_
      refine Am 0 28015 Z f Z fun a f=>Am 1 28015 Z f Z fun a f=>Am 5 28015 Z f Z fun a f=>Am 6 28015 Z f Z fun a f=>q_p 7 28015 Z f (fun _=>AL (f.eval Z) (f.eval Z) A8) fun a f=> ?_
      obtain⟨a3,a4,am⟩:=bind_some am
      refine AW 8 28015 0 m ap T27 a4 Z f Z Z fun a5 a a6 f=>Bg 9 28015 0 ap AO a6 a4 Z f Z fun a7 a a8 f=>Am 10 28015 Z f Z fun a f=>Am 11 28015 Z f Z fun a f=> ?_
      obtain⟨a9,ba,am⟩:=bind_some am
      refine AW 12 28015 0 m ap T27 ba Z f Z Z fun bb a bc f=>Bg 13 28015 0 ap AO bc ba Z f Z fun bd a be f=> ?_
      obtain⟨bf,bg,am⟩:=bind_some am
      refine AW 14 28015 0 m ap T27 bg Z f Z Z fun bh a bi f=>AU fun bj w bk m=> ?_
      have a8:=(RTg.mono (RI.mono _)) _ _ _ _ bk a8
      have be:=(RTg.mono (RI.mono _)) _ _ _ _ bk be
      have ap:=Ow.mono (RTg.mono (RI.mono _)) bk ap
      refine AH 0 m ap Z Tryz.sizeOf31 f Z Z bi bg a8.cells a8.one1 a8 fun bl w m bm=> ?_
      obtain⟨bn,bo,am⟩:=bind_some am
      refine AV 0 m bm Z T27 f Z Z Z bo fun bp a bq f=>AH 0 m bm Z Tryz.sizeOf31 f Z Z bq bo be.cells be.one1 be fun br w m bs=>Aa (Af (Ac ?_))
      refine Ab f Z fun a f=>Ab f Z fun a f=>Ai f Z Z A8 fun a f=>Ai f Z Z Cz fun a f=>Aa ?_
      obtain⟨bt,bu,am⟩:=bind_some am
      refine AF (fun a w=>∃bv:List (Value×List Int),bv=bt∧∃(bw:GH) (bx:Itm),GLe bj bw∧Fr a 141 [(0,v0),(1,(.int .i64 x1)),(2,(.int .i64 x2)),(3,(.func (.func 76) #[] #[])),(9,(.int .i64 av)),(10,(.int .i64 ai))]∧Mem W bw w (bx::H)∧Ow (RTg (RI .i64)) 31 bw bx v0 bv) ?_ ?_
      ·rcases Ae bu with⟨bz,bu⟩|⟨bz,bu⟩
       ·refine Ak f Z bz ?_
        refine Ac ?_
        refine Ab f Z fun a f=>Ai f Z Z A8 fun a f=>Ad f Z fun a f=>Aa ?_
        obtain⟨bA,bB,bu⟩:=bind_some bu
        refine AF (fun a w=>∃bC:List (Value×List Int),bC=bA∧∃(bD:GH) (bE:Itm),GLe bj bD∧Fr a 141 [(0,v0),(1,(.int .i64 x1)),(2,(.int .i64 x2)),(3,(.func (.func 76) #[] #[])),(9,(.int .i64 av)),(10,(.int .i64 ai))]∧Mem W bD w (bE::H)∧Ow (RTg (RI .i64)) 31 bD bE v0 bC) ?_ ?_
        ·refine Aj ?_
         refine AC (fun bF a w=>∃bG:List (Value×List Int),∃bH:Int,(bG,bH)=bF∧∃(bI:GH) (bJ:Itm),GLe bj bI∧Fr a 141 [(0,v0),(1,(.int .i64 x1)),(2,(.int .i64 x2)),(3,(.func (.func 76) #[] #[])),(9,(.int .i64 av)),(10,(.int .i64 ai)),(11,(.int .i64 bH))]∧Mem W bI w (bJ::H)∧Ow (RTg (RI .i64)) 31 bI bJ v0 bG) bB ⟨_,_,Z,_,br,gr,f.k Z,m,bs⟩ ?_
         clear bB f m
         rintro bF bK bL bM a w ⟨bG,bH,rfl,bI,bJ,bN,f,m,bO⟩
         refine Af (Ac ?_)
         refine Ab f Z fun a f=>Ai f Z Z Cz fun a f=>Aa ?_
         rcases Ae bL with⟨bP,bL⟩|⟨bP,bL⟩
         ·refine Ak f Z bP ?_
          refine Al ?_
          refine Af (Aj (Af (Af ?_)))
          refine AY 13 AI (by kernel_rfl) m ?_
          refine Am 0 13 Z f Z fun a f=>Am 1 13 Z f Z fun a f=>Am 2 13 Z f Z fun a f=> ?_
          obtain⟨bQ,bR,bL⟩:=bind_some bL
          refine AW 3 13 0 m bO T27 bR Z f Z Z fun bS a bT f=>Bg 4 13 0 bO AO bT bR Z f Z fun bU a bV f=>Am 5 13 Z f Z fun a f=>Am 6 13 Z f Z fun a f=>q_p 7 13 Z f (fun _=>AL (f.eval Z) (f.eval Z) A8) fun a f=> ?_
          obtain⟨bW,bX,bL⟩:=bind_some bL
          refine AW 8 13 0 m bO T27 bX Z f Z Z fun bY a bZ f=>Bg 9 13 0 bO AO bZ bX Z f Z fun b0 a b1 f=> ?_
          obtain⟨b2,b3,bL⟩:=bind_some bL
          refine Cp (i:=10) 13 Z (by kernel_rfl) Z f Z Z Z Z Tryz.call76 (fun _ _ w b4 m=>Wk.b m (rd1 b4 (bV.2)) (rd1 b4 (b1.2)) b3) fun a f=>q_p 11 13 Z f (fun _=>AL (f.eval Z) (f.eval Z) AA) fun a f=>q_p 12 13 Z f (fun _=>Bs (f.eval Z)) fun a f=>AU fun b5 w b6 m=> ?_
          have bV:=(RTg.mono (RI.mono _)) _ _ _ _ b6 bV
          have b1:=(RTg.mono (RI.mono _)) _ _ _ _ b6 b1
          have bO:=Ow.mono (RTg.mono (RI.mono _)) b6 bO
          refine Aa ?_
          rcases Ae bL with⟨b7,bL⟩|⟨b7,bL⟩
          ·refine Ak f Z b7 ?_
           refine Aw Z ?_
           obtain rfl:=sj bL
           obtain rfl:=bM _ rfl
           exact⟨_,Z,_,bJ,(gt bN b6),f.k Z,m,bO⟩
          ·refine Ag f Z b7 ?_
           refine Al ?_
           refine Cd AI m ?_
           refine p_p 2 Z (by kernel_rfl) f Z Z Z (fun _=>AM (f.eval Z)) fun a f=>p_p 3 Z (by kernel_rfl) f Z Z Z (fun _=>AM (f.eval Z)) fun a f=>p_p 4 Z (by kernel_rfl) f Z Z Z (fun _=>AL (f.eval Z) (f.eval Z) A8) fun a f=>Cb 28015 12 (by kernel_rfl) Z ?_
           refine Am 0 28015 Z f Z fun a f=>Am 1 28015 Z f Z fun a f=>Am 5 28015 Z f Z fun a f=>Am 6 28015 Z f Z fun a f=>q_p 7 28015 Z f (fun _=>AL (f.eval Z) (f.eval Z) A8) fun a f=> ?_
           obtain⟨b8,b9,bL⟩:=bind_some bL
           refine AW 8 28015 0 m bO T27 b9 Z f Z Z fun ca a cb f=>Bg 9 28015 0 bO AO cb b9 Z f Z fun cc a cd f=>Am 10 28015 Z f Z fun a f=>Am 11 28015 Z f Z fun a f=> ?_
           obtain⟨ce,cf,bL⟩:=bind_some bL
           refine AW 12 28015 0 m bO T27 cf Z f Z Z fun cg a ch f=>Bg 13 28015 0 bO AO ch cf Z f Z fun ci a cj f=> ?_
           obtain⟨ck,cl,bL⟩:=bind_some bL
           refine AW 14 28015 0 m bO T27 cl Z f Z Z fun cm a cn f=>AU fun co w cp m=> ?_
           have cd:=(RTg.mono (RI.mono _)) _ _ _ _ cp cd
           have cj:=(RTg.mono (RI.mono _)) _ _ _ _ cp cj
           have bO:=Ow.mono (RTg.mono (RI.mono _)) cp bO
           refine AH 0 m bO Z Tryz.sizeOf31 f Z Z cn cl cd.cells cd.one1 cd fun cq w m cr=> ?_
           obtain⟨cs,ct,bL⟩:=bind_some bL
           refine AV 0 m cr Z T27 f Z Z Z ct fun cu a cv f=>AH 0 m cr Z Tryz.sizeOf31 f Z Z cv ct cj.cells cj.one1 cj fun cw w m cx=>Aa (Ah ?_)
           refine Ab f Z fun a f=>Ai f Z Z A8 fun a f=>Ad f Z fun a f=>Aa ?_
           obtain rfl:=sj bL
           exact⟨_,Z,_,_,Z,_,cw,(gt bN (gt b6 cp)),f.k Z,m,cx⟩
         ·refine Ag f Z bP ?_
          refine Aw Z ?_
          obtain rfl:=sj bL
          obtain rfl:=bM _ rfl
          exact⟨_,Z,_,bJ,bN,f.k Z,m,bO⟩
        ·rintro a w ⟨bC,rfl,bD,bE,cy,f,m,cz⟩
         obtain rfl:=sj bu
         exact⟨_,Z,_,bE,cy,f.k Z,m,cz⟩
       ·refine Ag f Z bz ?_
        refine Al ?_
        obtain rfl:=sj bu
        exact⟨_,Z,_,br,gr,f.k Z,m,bs⟩
      ·rintro a w ⟨bv,rfl,bw,bx,cA,f,m,cB⟩
       refine Ac ?_
       refine Ab f Z fun a f=>Ab f Z fun a f=>Ai f Z Z A8 fun a f=>Ai f Z Z Cz fun a f=>Aa ?_
       rcases Ae am with⟨cC,am⟩|⟨cC,am⟩
       ·refine Ak f Z cC ?_
        refine Ac ?_
        refine Ab f Z fun a f=>Ai f Z Z As fun a f=>Ad f Z fun a f=>Aa ?_
        obtain⟨cD,cE,am⟩:=bind_some am
        refine AF (fun a w=>∃cF:List (Value×List Int),cF=cD∧∃(cG:GH) (cH:Itm),GLe bw cG∧Fr a 141 [(0,v0),(1,(.int .i64 x1)),(2,(.int .i64 x2)),(3,(.func (.func 76) #[] #[])),(9,(.int .i64 av)),(10,(.int .i64 ai))]∧Mem W cG w (cH::H)∧Ow (RTg (RI .i64)) 31 cG cH v0 cF) ?_ ?_
        ·refine Aj ?_
         refine AC (fun cI a w=>∃cJ:List (Value×List Int),∃cK:Int,(cJ,cK)=cI∧∃(cL:GH) (cM:Itm),GLe bw cL∧Fr a 141 [(0,v0),(1,(.int .i64 x1)),(2,(.int .i64 x2)),(3,(.func (.func 76) #[] #[])),(9,(.int .i64 av)),(10,(.int .i64 ai)),(12,(.int .i64 cK))]∧Mem W cL w (cM::H)∧Ow (RTg (RI .i64)) 31 cL cM v0 cJ) cE ⟨_,_,Z,_,bx,gr,f.k Z,m,cB⟩ ?_
         clear cE f m
         rintro cI cN cO cP a w ⟨cJ,cK,rfl,cL,cM,cQ,f,m,cR⟩
         refine Af (Ac ?_)
         refine Ab f Z fun a f=>Ab f Z fun a f=>Ai f Z Z AA fun a f=>Aa ?_
         rcases Ae cO with⟨cS,cO⟩|⟨cS,cO⟩
         ·refine Ak f Z cS ?_
          refine Al ?_
          refine Af (Aj (Af (Af ?_)))
          refine AY 13 AI (by kernel_rfl) m ?_
          refine Am 0 13 Z f Z fun a f=>Am 1 13 Z f Z fun a f=>Am 2 13 Z f Z fun a f=> ?_
          obtain⟨cT,cU,cO⟩:=bind_some cO
          refine AW 3 13 0 m cR T27 cU Z f Z Z fun cV a cW f=>Bg 4 13 0 cR AO cW cU Z f Z fun cX a cY f=>Am 5 13 Z f Z fun a f=>Am 6 13 Z f Z fun a f=>q_p 7 13 Z f (fun _=>AL (f.eval Z) (f.eval Z) A8) fun a f=> ?_
          obtain⟨cZ,c0,cO⟩:=bind_some cO
          refine AW 8 13 0 m cR T27 c0 Z f Z Z fun c1 a c2 f=>Bg 9 13 0 cR AO c2 c0 Z f Z fun c3 a c4 f=> ?_
          obtain⟨c5,c6,cO⟩:=bind_some cO
          refine Cp (i:=10) 13 Z (by kernel_rfl) Z f Z Z Z Z Tryz.call76 (fun _ _ w c7 m=>Wk.b m (rd1 c7 (cY.2)) (rd1 c7 (c4.2)) c6) fun a f=>q_p 11 13 Z f (fun _=>AL (f.eval Z) (f.eval Z) AA) fun a f=>q_p 12 13 Z f (fun _=>Bs (f.eval Z)) fun a f=>AU fun c8 w c9 m=> ?_
          have cY:=(RTg.mono (RI.mono _)) _ _ _ _ c9 cY
          have c4:=(RTg.mono (RI.mono _)) _ _ _ _ c9 c4
          have cR:=Ow.mono (RTg.mono (RI.mono _)) c9 cR
          refine Aa ?_
          rcases Ae cO with⟨da,cO⟩|⟨da,cO⟩
          ·refine Ak f Z da ?_
           refine Aw Z ?_
           obtain rfl:=sj cO
           obtain rfl:=cP _ rfl
           exact⟨_,Z,_,cM,(gt cQ c9),f.k Z,m,cR⟩
          ·refine Ag f Z da ?_
           refine Al ?_
           refine Cd AI m ?_
           refine p_p 2 Z (by kernel_rfl) f Z Z Z (fun _=>AM (f.eval Z)) fun a f=>p_p 3 Z (by kernel_rfl) f Z Z Z (fun _=>AM (f.eval Z)) fun a f=>p_p 4 Z (by kernel_rfl) f Z Z Z (fun _=>AL (f.eval Z) (f.eval Z) A8) fun a f=>Cb 28015 12 (by kernel_rfl) Z ?_
           refine Am 0 28015 Z f Z fun a f=>Am 1 28015 Z f Z fun a f=>Am 5 28015 Z f Z fun a f=>Am 6 28015 Z f Z fun a f=>q_p 7 28015 Z f (fun _=>AL (f.eval Z) (f.eval Z) A8) fun a f=> ?_
           obtain⟨db,dc,cO⟩:=bind_some cO
           refine AW 8 28015 0 m cR T27 dc Z f Z Z fun dd a de f=>Bg 9 28015 0 cR AO de dc Z f Z fun df a dg f=>Am 10 28015 Z f Z fun a f=>Am 11 28015 Z f Z fun a f=> ?_
           obtain⟨dh,di,cO⟩:=bind_some cO
           refine AW 12 28015 0 m cR T27 di Z f Z Z fun dj a dk f=>Bg 13 28015 0 cR AO dk di Z f Z fun dl a dm f=> ?_
           obtain⟨dn,dp,cO⟩:=bind_some cO
           refine AW 14 28015 0 m cR T27 dp Z f Z Z fun dq a dr f=>AU fun ds w dt m=> ?_
           have dg:=(RTg.mono (RI.mono _)) _ _ _ _ dt dg
           have dm:=(RTg.mono (RI.mono _)) _ _ _ _ dt dm
           have cR:=Ow.mono (RTg.mono (RI.mono _)) dt cR
           refine AH 0 m cR Z Tryz.sizeOf31 f Z Z dr dp dg.cells dg.one1 dg fun du w m dv=> ?_
           obtain⟨dw,dx,cO⟩:=bind_some cO
           refine AV 0 m dv Z T27 f Z Z Z dx fun dy a dz f=>AH 0 m dv Z Tryz.sizeOf31 f Z Z dz dx dm.cells dm.one1 dm fun dA w m dB=>Aa (Ah ?_)
           refine Ab f Z fun a f=>Ai f Z Z As fun a f=>Ad f Z fun a f=>Aa ?_
           obtain rfl:=sj cO
           exact⟨_,Z,_,_,Z,_,dA,(gt cQ (gt c9 dt)),f.k Z,m,dB⟩
         ·refine Ag f Z cS ?_
          refine Aw Z ?_
          obtain rfl:=sj cO
          obtain rfl:=cP _ rfl
          exact⟨_,Z,_,cM,cQ,f.k Z,m,cR⟩
        ·rintro a w ⟨cF,rfl,cG,cH,dC,f,m,dD⟩
         refine Ah ?_
         refine Ab f Z fun a f=>Ai f Z Z As fun a f=>Ad f Z fun a f=>Aa ?_
         obtain rfl:=sj am
         exact⟨_,Z,_,_,_,Z,_,cH,(gt ao (gt a0 (gt bk (gt cA dC)))),f.k Z,m,dD⟩
       ·refine Ag f Z cC ?_
        refine Al ?_
        refine Ah ?_
        refine Ab f Z fun a f=>Ai f Z Z As fun a f=>Ad f Z fun a f=>Aa ?_
        obtain rfl:=sj am
        exact⟨_,Z,_,_,_,Z,_,bx,(gt ao (gt a0 (gt bk cA))),f.k Z,m,cB⟩
  ·refine Ag f Z aq ?_
   refine Aw Z ?_
   obtain rfl:=sj am
   obtain rfl:=an _ rfl
   exact⟨_,Z,_,Z,_,ak,ao,f.weak trivial,m,ap⟩
 ·rintro a w ⟨_,rfl,ac,rfl,ad,ae,dE,f,m,dF⟩
  refine Ac ?_
  refine Ad f Z fun a f=>Aa ?_
  refine Ao ?_
  obtain rfl:=sj hd
  exact⟨[(.bool false)],⟨f.get _ _ Z,trivial⟩,f.defers,_,[ae],dE,m,_,Z,Z,dF⟩
theorem Wk.g1 {W w:World}{G:GH}{H:List Itm}{v0:Value}{it0:Itm}{x0:(List (Value×List Int))}{x1:Int}{x2:Int}{x3:Int}(m:Mem W G w (it0::H))(o0:Ow (RTg (RI .i64)) 31 G it0 v0 x0){y:Int×((List (Value×List Int)))}(hd:D.g1 x0 x1 x2 x3=some y):
  Calls Tryz.prog 132 #[v0,(.int .i64 x1),(.int .i64 x2),(.int .i64 x3),(.func (.func 76) #[] #[])] w (Res W G H (fun G' Ho v=>∃i0:Itm,Ho=[i0]∧v=(.int .i64 y.1)∧Ow (RTg (RI .i64)) 31 G' i0 v0 y.2)):=by
 refine Aq (args:=[v0,(.int .i64 x1),(.int .i64 x2),(.int .i64 x3),(.func (.func 76) #[] #[])]) (N:=90) [.tmp 10] Tryz.func132 Z Z (Nat.le_of_ble_eq_true Z) Z fun a f=> ?_
 unfold D.g1 at hd
 refine Ac ?_
 refine Ad f Z fun a f=>Aa (Af ?_)
 refine Cd AI m ?_
 refine p_p 2 Z (by kernel_rfl) f Z Z Z (fun _=>AM (f.eval Z)) fun a f=>p_p 3 Z (by kernel_rfl) f Z Z Z (fun _=>AM (f.eval Z)) fun a f=>Cb 12013 11 (by kernel_rfl) Z ?_
 refine Am 0 12013 Z f Z fun a f=>Am 1 12013 Z f Z fun a f=>Am 4 12013 Z f Z fun a f=>Am 5 12013 Z f Z fun a f=> ?_
 obtain⟨aa,ab,hd⟩:=bind_some hd
 refine AW 6 12013 0 m o0 T27 ab Z f Z Z fun ac a ad f=>Bg 7 12013 0 o0 AO ad ab Z f Z fun ae a af f=>Am 8 12013 Z f Z fun a f=>Am 9 12013 Z f Z fun a f=> ?_
 obtain⟨ag,ah,hd⟩:=bind_some hd
 refine AW 10 12013 0 m o0 T27 ah Z f Z Z fun ai a aj f=>Bg 11 12013 0 o0 AO aj ah Z f Z fun ak a al f=> ?_
 obtain⟨am,an,hd⟩:=bind_some hd
 refine AW 12 12013 0 m o0 T27 an Z f Z Z fun ao a ap f=>AU fun aq w ar m=> ?_
 have af:=(RTg.mono (RI.mono _)) _ _ _ _ ar af
 have al:=(RTg.mono (RI.mono _)) _ _ _ _ ar al
 have o0:=Ow.mono (RTg.mono (RI.mono _)) ar o0
 refine AH 0 m o0 Z Tryz.sizeOf31 f Z Z ap an af.cells af.one1 af fun au w m av=> ?_
 obtain⟨aw,ax,hd⟩:=bind_some hd
 refine AV 0 m av Z T27 f Z Z Z ax fun ay a az f=>AH 0 m av Z Tryz.sizeOf31 f Z Z az ax al.cells al.one1 al fun aA w m aB=>Aa (Ac ?_)
 refine Ab f Z fun a f=>Ai f Z Z As fun a f=>Ab f Z fun a f=>Ai f Z Z A8 fun a f=>Ad f Z fun a f=>Ad f Z fun a f=>Aa (Af ?_)
 obtain⟨aC,aD,hd⟩:=bind_some hd
 refine AF (fun a w=>∃aE:List (Value×List Int),∃aF:Int,(aE,aF)=aC∧∃(aG:GH) (aH:Itm),GLe aq aG∧Fr a 90 [(11,(.int .i64 aF))]∧Mem W aG w (aH::H)∧Ow (RTg (RI .i64)) 31 aG aH v0 aE) ?_ ?_
 ·refine Aj ?_
  refine AC (fun aI a w=>∃aJ:List (Value×List Int),∃aK:Int,∃aL:Int,(aJ,aK,aL)=aI∧∃(aM:GH) (aN:Itm),GLe aq aM∧Fr a 90 [(0,v0),(1,(.int .i64 x1)),(4,(.func (.func 76) #[] #[])),(11,(.int .i64 aK)),(12,(.int .i64 aL))]∧Mem W aM w (aN::H)∧Ow (RTg (RI .i64)) 31 aM aN v0 aJ) aD ⟨_,_,_,Z,_,aA,gr,f.k Z,m,aB⟩ ?_
  clear aD f m
  rintro aI aO aP aQ a w ⟨aJ,aK,aL,rfl,aM,aN,aR,f,m,aS⟩
  refine Aj (Af ?_)
  obtain⟨aT,aU,aP⟩:=bind_some aP
  refine AF (fun a w=>∃aV:Int,aV=aT∧∃(aW:GH),GLe aM aW∧Fr a 90 [(0,v0),(1,(.int .i64 x1)),(4,(.func (.func 76) #[] #[])),(11,(.int .i64 aV)),(12,(.int .i64 aL))]∧Mem W aW w (aN::H)) ?_ ?_
  ·refine Aj ?_
   refine AC (fun aX a w=>∃aY:Int,aY=aX∧∃(aZ:GH),GLe aM aZ∧Fr a 90 [(0,v0),(1,(.int .i64 x1)),(4,(.func (.func 76) #[] #[])),(11,(.int .i64 aY)),(12,(.int .i64 aL))]∧Mem W aZ w (aN::H)) aU ⟨_,Z,_,gr,f.k Z,m⟩ ?_
   clear aU f m
   rintro aX a0 a1 a2 a w ⟨aY,rfl,aZ,a3,f,m⟩
   have aS:=Ow.mono (RTg.mono (RI.mono _)) a3 aS
   refine Af (Af ?_)
   refine AY 17 AI (by kernel_rfl) m ?_
   refine Am 0 17 Z f Z fun a f=>Am 1 17 Z f Z fun a f=>q_p 2 17 Z f (fun _=>AL (f.eval Z) (f.eval Z) CK) fun a f=>Am 3 17 Z f Z fun a f=> ?_
   obtain⟨a4,a5,a1⟩:=bind_some a1
   refine CY (fuel':=0) (listed':= #[true,true,true,true,true,true,true,true,true,true,true,true,true,true,true,true,true]) (fun a=>Fr a 90 [(0,v0),(1,(.int .i64 x1)),(4,(.func (.func 76) #[] #[])),(11,(.int .i64 aY)),(12,(.int .i64 aL)),(31,(.int .i64 aY)),(32,(.int .i64 aL)),(33,(.bool (decide (aY≤aL)))),(34,(.bool (decide (aY≤aL)))),(47,(.bool a4))]) ?_ ?_
   ·intro a f
    refine AU fun a6 w a7 m=> ?_
    have aS:=Ow.mono (RTg.mono (RI.mono _)) a7 aS
    refine Aa ?_
    rcases Ae a1 with⟨a8,a1⟩|⟨a8,a1⟩
    ·refine Ak f Z a8 ?_
     refine Al ?_
     refine Aj (Ah ?_)
     refine Ab f Z fun a f=>Ai f Z Z As fun a f=>Ad f Z fun a f=>Aa ?_
     obtain rfl:=sj a1
     exact⟨_,Z,_,Z,_,(gt a3 a7),f.k Z,m⟩
    ·refine Ag f Z a8 ?_
     refine Aw Z ?_
     obtain rfl:=sj a1
     obtain rfl:=a2 _ rfl
     exact⟨_,Z,_,(gt a3 a7),f.k Z,m⟩
   ·intro a9
    rcases Ae a5 with⟨ba,a5⟩|⟨ba,a5⟩
    ·refine Am (hw:=wo f ba) 4 17 Z f Z fun a f=> ?_
     refine Am (hw:=wo f ba) 5 17 Z f Z fun a f=>Am (hw:=wo f ba) 6 17 Z f Z fun a f=> ?_
     obtain⟨bb,bc,a5⟩:=bind_some a5
     refine AW (hw:=wo f ba) 7 17 0 m aS T27 bc Z f Z Z fun bd a be f=>Bg (hw:=wo f ba) 8 17 0 aS AO be bc Z f Z fun bf a bg f=>Am (hw:=wo f ba) 9 17 Z f Z fun a f=>Am (hw:=wo f ba) 10 17 Z f Z fun a f=> ?_
     obtain⟨bh,bi,a5⟩:=bind_some a5
     refine AW (hw:=wo f ba) 11 17 0 m aS T27 bi Z f Z Z fun bj a bk f=>Bg (hw:=wo f ba) 12 17 0 aS AO bk bi Z f Z fun bl a bm f=> ?_
     obtain⟨bn,bo,a5⟩:=bind_some a5
     refine Cp (i:=13) 17 Z (by kernel_rfl) Z f (Bz f Z Z Z ba) Z Z Z Tryz.call76 (fun _ _ w bp m=>Wk.b m (rd1 bp (bg.2)) (rd1 bp (bm.2)) bo) fun a f=>q_p (hw:=wo f ba) 14 17 Z f (fun _=>AL (f.eval Z) (f.eval Z) AA) fun a f=>q_p (hw:=wo f ba) 15 17 Z f (fun _=>Bs (f.eval Z)) fun a f=>q_p 16 17 Z f (fun _=>A3 (f.eval Z) ba (f.eval Z)) fun a f=> ?_
     obtain rfl:=sj a5
     exact a9 _ (f.k Z)
    ·refine Ax 4 17 Z f ba fun a f=> ?_
     refine Ax 5 17 Z f ba fun a f=>Ax 6 17 Z f ba fun a f=>Ax 7 17 Z f ba fun a f=>Ax 8 17 Z f ba fun a f=>Ax 9 17 Z f ba fun a f=>Ax 10 17 Z f ba fun a f=>Ax 11 17 Z f ba fun a f=>Ax 12 17 Z f ba fun a f=>Ax 13 17 Z f ba fun a f=>Ax 14 17 Z f ba fun a f=>Ax 15 17 Z f ba fun a f=>q_p 16 17 Z f (fun _=>A2 (f.eval Z) ba (f.eval Z)) fun a f=> ?_
     obtain rfl:=sj a5
     exact a9 _ (f.k Z)
  ·rintro a w ⟨aV,rfl,aW,bq,f,m⟩
   have aS:=Ow.mono (RTg.mono (RI.mono _)) bq aS
   refine Af ?_
   obtain⟨br,bs,aP⟩:=bind_some aP
   refine AF (fun a w=>∃bt:Int,bt=br∧∃(bu:GH),GLe aW bu∧Fr a 90 [(0,v0),(1,(.int .i64 x1)),(4,(.func (.func 76) #[] #[])),(11,(.int .i64 aV)),(12,(.int .i64 bt))]∧Mem W bu w (aN::H)) ?_ ?_
   ·refine Aj ?_
    refine AC (fun bv a w=>∃bw:Int,bw=bv∧∃(bx:GH),GLe aW bx∧Fr a 90 [(0,v0),(1,(.int .i64 x1)),(4,(.func (.func 76) #[] #[])),(11,(.int .i64 aV)),(12,(.int .i64 bw))]∧Mem W bx w (aN::H)) bs ⟨_,Z,_,gr,f.k Z,m⟩ ?_
    clear bs f m
    rintro bv bz bA bB a w ⟨bw,rfl,bx,bC,f,m⟩
    have aS:=Ow.mono (RTg.mono (RI.mono _)) bC aS
    refine Af (Af ?_)
    refine AY 16 AI (by kernel_rfl) m ?_
    refine Am 0 16 Z f Z fun a f=>Am 1 16 Z f Z fun a f=>q_p 2 16 Z f (fun _=>AL (f.eval Z) (f.eval Z) CK) fun a f=>Am 3 16 Z f Z fun a f=> ?_
    obtain⟨bD,bE,bA⟩:=bind_some bA
    refine CY (fuel':=0) (listed':= #[true,true,true,true,true,true,true,true,true,true,true,true,true,true,true,true]) (fun a=>Fr a 90 [(0,v0),(1,(.int .i64 x1)),(4,(.func (.func 76) #[] #[])),(11,(.int .i64 aV)),(12,(.int .i64 bw)),(50,(.int .i64 aV)),(51,(.int .i64 bw)),(52,(.bool (decide (aV≤bw)))),(53,(.bool (decide (aV≤bw)))),(65,(.bool bD))]) ?_ ?_
    ·intro a f
     refine AU fun bF w bG m=> ?_
     have aS:=Ow.mono (RTg.mono (RI.mono _)) bG aS
     refine Aa ?_
     rcases Ae bA with⟨bH,bA⟩|⟨bH,bA⟩
     ·refine Ak f Z bH ?_
      refine Al ?_
      refine Aj (Ah ?_)
      refine Ab f Z fun a f=>Ai f Z Z A8 fun a f=>Ad f Z fun a f=>Aa ?_
      obtain rfl:=sj bA
      exact⟨_,Z,_,Z,_,(gt bC bG),f.k Z,m⟩
     ·refine Ag f Z bH ?_
      refine Aw Z ?_
      obtain rfl:=sj bA
      obtain rfl:=bB _ rfl
      exact⟨_,Z,_,(gt bC bG),f.k Z,m⟩
    ·intro bI
     rcases Ae bE with⟨bJ,bE⟩|⟨bJ,bE⟩
     ·refine Am (hw:=wo f bJ) 4 16 Z f Z fun a f=> ?_
      refine Am (hw:=wo f bJ) 5 16 Z f Z fun a f=>Am (hw:=wo f bJ) 6 16 Z f Z fun a f=> ?_
      obtain⟨bK,bL,bE⟩:=bind_some bE
      refine AW (hw:=wo f bJ) 7 16 0 m aS T27 bL Z f Z Z fun bM a bN f=>Bg (hw:=wo f bJ) 8 16 0 aS AO bN bL Z f Z fun bO a bP f=>Am (hw:=wo f bJ) 9 16 Z f Z fun a f=>Am (hw:=wo f bJ) 10 16 Z f Z fun a f=> ?_
      obtain⟨bQ,bR,bE⟩:=bind_some bE
      refine AW (hw:=wo f bJ) 11 16 0 m aS T27 bR Z f Z Z fun bS a bT f=>Bg (hw:=wo f bJ) 12 16 0 aS AO bT bR Z f Z fun bU a bV f=> ?_
      obtain⟨bW,bX,bE⟩:=bind_some bE
      refine Cp (i:=13) 16 Z (by kernel_rfl) Z f (Bz f Z Z Z bJ) Z Z Z Tryz.call76 (fun _ _ w bY m=>Wk.b m (rd1 bY (bP.2)) (rd1 bY (bV.2)) bX) fun a f=>q_p (hw:=wo f bJ) 14 16 Z f (fun _=>AL (f.eval Z) (f.eval Z) AA) fun a f=>q_p 15 16 Z f (fun _=>A3 (f.eval Z) bJ (f.eval Z)) fun a f=> ?_
      obtain rfl:=sj bE
      exact bI _ (f.k Z)
     ·refine Ax 4 16 Z f bJ fun a f=> ?_
      refine Ax 5 16 Z f bJ fun a f=>Ax 6 16 Z f bJ fun a f=>Ax 7 16 Z f bJ fun a f=>Ax 8 16 Z f bJ fun a f=>Ax 9 16 Z f bJ fun a f=>Ax 10 16 Z f bJ fun a f=>Ax 11 16 Z f bJ fun a f=>Ax 12 16 Z f bJ fun a f=>Ax 13 16 Z f bJ fun a f=>Ax 14 16 Z f bJ fun a f=>q_p 15 16 Z f (fun _=>A2 (f.eval Z) bJ (f.eval Z)) fun a f=> ?_
      obtain rfl:=sj bE
      exact bI _ (f.k Z)
   ·rintro a w ⟨bt,rfl,bu,bZ,f,m⟩
    have aS:=Ow.mono (RTg.mono (RI.mono _)) bZ aS
    refine Af (Ac ?_)
    refine Ab f Z fun a f=>Ab f Z fun a f=>Ai f Z Z Cr fun a f=>Aa ?_
    rcases Ae aP with⟨b0,aP⟩|⟨b0,aP⟩
    ·refine Ak f Z b0 ?_
     refine Aw Z ?_
     obtain rfl:=sj aP
     obtain rfl:=aQ _ rfl
     exact⟨_,_,Z,_,aN,(gt aR (gt bq bZ)),f.k Z,m,aS⟩
    ·refine Ag f Z b0 ?_
     refine Al ?_
     refine Af ?_
     refine Cd AI m ?_
     refine p_p 2 Z (by kernel_rfl) f Z Z Z (fun _=>AM (f.eval Z)) fun a f=>p_p 3 Z (by kernel_rfl) f Z Z Z (fun _=>AM (f.eval Z)) fun a f=>Cb 12013 11 (by kernel_rfl) Z ?_
     refine Am 0 12013 Z f Z fun a f=>Am 1 12013 Z f Z fun a f=>Am 4 12013 Z f Z fun a f=>Am 5 12013 Z f Z fun a f=> ?_
     obtain⟨b1,b2,aP⟩:=bind_some aP
     refine AW 6 12013 0 m aS T27 b2 Z f Z Z fun b3 a b4 f=>Bg 7 12013 0 aS AO b4 b2 Z f Z fun b5 a b6 f=>Am 8 12013 Z f Z fun a f=>Am 9 12013 Z f Z fun a f=> ?_
     obtain⟨b7,b8,aP⟩:=bind_some aP
     refine AW 10 12013 0 m aS T27 b8 Z f Z Z fun b9 a ca f=>Bg 11 12013 0 aS AO ca b8 Z f Z fun cb a cc f=> ?_
     obtain⟨cd,ce,aP⟩:=bind_some aP
     refine AW 12 12013 0 m aS T27 ce Z f Z Z fun cf a cg f=>AU fun ch w ci m=> ?_
     have b6:=(RTg.mono (RI.mono _)) _ _ _ _ ci b6
     have cc:=(RTg.mono (RI.mono _)) _ _ _ _ ci cc
     have aS:=Ow.mono (RTg.mono (RI.mono _)) ci aS
     refine AH 0 m aS Z Tryz.sizeOf31 f Z Z cg ce b6.cells b6.one1 b6 fun cj w m ck=> ?_
     obtain⟨cl,cm,aP⟩:=bind_some aP
     refine AV 0 m ck Z T27 f Z Z Z cm fun cn a co f=>AH 0 m ck Z Tryz.sizeOf31 f Z Z co cm cc.cells cc.one1 cc fun cp w m cq=>Aa (Ac ?_)
     refine Ab f Z fun a f=>Ai f Z Z As fun a f=>Ad f Z fun a f=>Aa (Ah ?_)
     refine Ab f Z fun a f=>Ai f Z Z A8 fun a f=>Ad f Z fun a f=>Aa ?_
     obtain rfl:=sj aP
     exact⟨_,Z,_,_,_,Z,_,cp,(gt aR (gt bq (gt bZ ci))),f.k Z,m,cq⟩
 ·rintro a w ⟨aE,aF,rfl,aG,aH,cr,f,m,cs⟩
  refine Ac ?_
  refine Ab f Z fun a f=>Ad f Z fun a f=>Aa ?_
  refine Ao ?_
  obtain rfl:=sj hd
  exact⟨[(.int .i64 aF)],⟨f.get _ _ Z,trivial⟩,f.defers,_,[aH],(gt ar cr),m,_,Z,Z,cs⟩
theorem Wk.q1 {W w:World}{G:GH}{H:List Itm}{v0:Value}{it0:Itm}{x0:(List (Value×List Int))}{x1:Int}{x2:Int}{x3:Int}(m:Mem W G w (it0::H))(o0:Ow (RTg (RI .i64)) 31 G it0 v0 x0){y:Int×Bool×((List (Value×List Int)))}(hd:D.q1 x0 x1 x2 x3=some y):
  Calls Tryz.prog 133 #[v0,(.int .i64 x1),(.int .i64 x2),(.int .i64 x3),(.func (.func 76) #[] #[])] w (Res W G H (fun G' Ho v=>∃i0:Itm,Ho=[i0]∧v= .tuple #[(.int .i64 y.1),(.bool y.2.1)]∧Ow (RTg (RI .i64)) 31 G' i0 v0 y.2.2)):=by
 refine Aq (args:=[v0,(.int .i64 x1),(.int .i64 x2),(.int .i64 x3),(.func (.func 76) #[] #[])]) (N:=178) [.tmp 10,.tmp 11] Tryz.func133 Z Z (Nat.le_of_ble_eq_true Z) Z fun a f=> ?_
 unfold D.q1 at hd
 refine Ac ?_
 refine Ad f Z fun a f=>Ad f Z fun a f=>Aa (Af ?_)
 refine Cd AI m ?_
 refine p_p 2 Z (by kernel_rfl) f Z Z Z (fun _=>AM (f.eval Z)) fun a f=>p_p 3 Z (by kernel_rfl) f Z Z Z (fun _=>AM (f.eval Z)) fun a f=>Cb 12013 11 (by kernel_rfl) Z ?_
 refine Am 0 12013 Z f Z fun a f=>Am 1 12013 Z f Z fun a f=>Am 4 12013 Z f Z fun a f=>Am 5 12013 Z f Z fun a f=> ?_
 obtain⟨aa,ab,hd⟩:=bind_some hd
 refine AW 6 12013 0 m o0 T27 ab Z f Z Z fun ac a ad f=>Bg 7 12013 0 o0 AO ad ab Z f Z fun ae a af f=>Am 8 12013 Z f Z fun a f=>Am 9 12013 Z f Z fun a f=> ?_
 obtain⟨ag,ah,hd⟩:=bind_some hd
 refine AW 10 12013 0 m o0 T27 ah Z f Z Z fun ai a aj f=>Bg 11 12013 0 o0 AO aj ah Z f Z fun ak a al f=> ?_
 obtain⟨am,an,hd⟩:=bind_some hd
 refine AW 12 12013 0 m o0 T27 an Z f Z Z fun ao a ap f=>AU fun aq w ar m=> ?_
 have af:=(RTg.mono (RI.mono _)) _ _ _ _ ar af
 have al:=(RTg.mono (RI.mono _)) _ _ _ _ ar al
 have o0:=Ow.mono (RTg.mono (RI.mono _)) ar o0
 refine AH 0 m o0 Z Tryz.sizeOf31 f Z Z ap an af.cells af.one1 af fun au w m av=> ?_
 obtain⟨aw,ax,hd⟩:=bind_some hd
 refine AV 0 m av Z T27 f Z Z Z ax fun ay a az f=>AH 0 m av Z Tryz.sizeOf31 f Z Z az ax al.cells al.one1 al fun aA w m aB=>Aa (Ac ?_)
 refine Ab f Z fun a f=>Ai f Z Z As fun a f=>Ab f Z fun a f=>Ai f Z Z A8 fun a f=>Ad f Z fun a f=>Ad f Z fun a f=>Aa (Af ?_)
 obtain⟨aC,aD,hd⟩:=bind_some hd
 refine AF (fun a w=>∃aE:Int,aE=aC∧∃(aF:GH),GLe aq aF∧Fr a 178 [(0,v0),(1,(.int .i64 x1)),(4,(.func (.func 76) #[] #[])),(12,(.int .i64 aE)),(13,(.int .i64 (IntKind.i64.wrap (x2-1))))]∧Mem W aF w (aA::H)) ?_ ?_
 ·refine Aj ?_
  refine AC (fun aG a w=>∃aH:Int,aH=aG∧∃(aI:GH),GLe aq aI∧Fr a 178 [(0,v0),(1,(.int .i64 x1)),(4,(.func (.func 76) #[] #[])),(12,(.int .i64 aH)),(13,(.int .i64 (IntKind.i64.wrap (x2-1))))]∧Mem W aI w (aA::H)) aD ⟨_,Z,_,gr,f.k Z,m⟩ ?_
  clear aD f m
  rintro aG aJ aK aL a w ⟨aH,rfl,aI,aM,f,m⟩
  have aB:=Ow.mono (RTg.mono (RI.mono _)) aM aB
  refine Af (Af ?_)
  refine AY 16 AI (by kernel_rfl) m ?_
  refine Am 0 16 Z f Z fun a f=>Am 1 16 Z f Z fun a f=>q_p 2 16 Z f (fun _=>AL (f.eval Z) (f.eval Z) CK) fun a f=>Am 3 16 Z f Z fun a f=> ?_
  obtain⟨aN,aO,aK⟩:=bind_some aK
  refine CY (fuel':=0) (listed':= #[true,true,true,true,true,true,true,true,true,true,true,true,true,true,true,true]) (fun a=>Fr a 178 [(0,v0),(1,(.int .i64 x1)),(4,(.func (.func 76) #[] #[])),(12,(.int .i64 aH)),(13,(.int .i64 (IntKind.i64.wrap (x2-1)))),(32,(.int .i64 aH)),(33,(.int .i64 (IntKind.i64.wrap (x2-1)))),(34,(.bool (decide (aH≤(IntKind.i64.wrap (x2-1)))))),(35,(.bool (decide (aH≤(IntKind.i64.wrap (x2-1)))))),(47,(.bool aN))]) ?_ ?_
  ·intro a f
   refine AU fun aP w aQ m=> ?_
   have aB:=Ow.mono (RTg.mono (RI.mono _)) aQ aB
   refine Aa ?_
   rcases Ae aK with⟨aR,aK⟩|⟨aR,aK⟩
   ·refine Ak f Z aR ?_
    refine Al ?_
    refine Aj (Ah ?_)
    refine Ab f Z fun a f=>Ai f Z Z As fun a f=>Ad f Z fun a f=>Aa ?_
    obtain rfl:=sj aK
    exact⟨_,Z,_,Z,_,(gt aM aQ),f.k Z,m⟩
   ·refine Ag f Z aR ?_
    refine Aw Z ?_
    obtain rfl:=sj aK
    obtain rfl:=aL _ rfl
    exact⟨_,Z,_,(gt aM aQ),f.k Z,m⟩
  ·intro aS
   rcases Ae aO with⟨aT,aO⟩|⟨aT,aO⟩
   ·refine Am (hw:=wo f aT) 4 16 Z f Z fun a f=> ?_
    refine Am (hw:=wo f aT) 5 16 Z f Z fun a f=>Am (hw:=wo f aT) 6 16 Z f Z fun a f=> ?_
    obtain⟨aU,aV,aO⟩:=bind_some aO
    refine AW (hw:=wo f aT) 7 16 0 m aB T27 aV Z f Z Z fun aW a aX f=>Bg (hw:=wo f aT) 8 16 0 aB AO aX aV Z f Z fun aY a aZ f=>Am (hw:=wo f aT) 9 16 Z f Z fun a f=>Am (hw:=wo f aT) 10 16 Z f Z fun a f=> ?_
    obtain⟨a0,a1,aO⟩:=bind_some aO
    refine AW (hw:=wo f aT) 11 16 0 m aB T27 a1 Z f Z Z fun a2 a a3 f=>Bg (hw:=wo f aT) 12 16 0 aB AO a3 a1 Z f Z fun a4 a a5 f=> ?_
    obtain⟨a6,a7,aO⟩:=bind_some aO
    refine Cp (i:=13) 16 Z (by kernel_rfl) Z f (Bz f Z Z Z aT) Z Z Z Tryz.call76 (fun _ _ w a8 m=>Wk.b m (rd1 a8 (aZ.2)) (rd1 a8 (a5.2)) a7) fun a f=>q_p (hw:=wo f aT) 14 16 Z f (fun _=>AL (f.eval Z) (f.eval Z) AA) fun a f=>q_p 15 16 Z f (fun _=>A3 (f.eval Z) aT (f.eval Z)) fun a f=> ?_
    obtain rfl:=sj aO
    exact aS _ (f.k Z)
   ·refine Ax 4 16 Z f aT fun a f=> ?_
    refine Ax 5 16 Z f aT fun a f=>Ax 6 16 Z f aT fun a f=>Ax 7 16 Z f aT fun a f=>Ax 8 16 Z f aT fun a f=>Ax 9 16 Z f aT fun a f=>Ax 10 16 Z f aT fun a f=>Ax 11 16 Z f aT fun a f=>Ax 12 16 Z f aT fun a f=>Ax 13 16 Z f aT fun a f=>Ax 14 16 Z f aT fun a f=>q_p 15 16 Z f (fun _=>A2 (f.eval Z) aT (f.eval Z)) fun a f=> ?_
    obtain rfl:=sj aO
    exact aS _ (f.k Z)
 ·rintro a w ⟨aE,rfl,aF,a9,f,m⟩
  have aB:=Ow.mono (RTg.mono (RI.mono _)) a9 aB
  refine Af ?_
  obtain⟨ba,bb,hd⟩:=bind_some hd
  refine AF (fun a w=>∃bc:Int,bc=ba∧∃(bd:GH),GLe aF bd∧Fr a 178 [(0,v0),(1,(.int .i64 x1)),(4,(.func (.func 76) #[] #[])),(12,(.int .i64 aE)),(13,(.int .i64 bc))]∧Mem W bd w (aA::H)) ?_ ?_
  ·refine Aj ?_
   refine AC (fun be a w=>∃bf:Int,bf=be∧∃(bg:GH),GLe aF bg∧Fr a 178 [(0,v0),(1,(.int .i64 x1)),(4,(.func (.func 76) #[] #[])),(12,(.int .i64 aE)),(13,(.int .i64 bf))]∧Mem W bg w (aA::H)) bb ⟨_,Z,_,gr,f.k Z,m⟩ ?_
   clear bb f m
   rintro be bh bi bj a w ⟨bf,rfl,bg,bk,f,m⟩
   have aB:=Ow.mono (RTg.mono (RI.mono _)) bk aB
   refine Af (Af ?_)
   refine AY 17 AI (by kernel_rfl) m ?_
   refine Am 0 17 Z f Z fun a f=>Am 1 17 Z f Z fun a f=>q_p 2 17 Z f (fun _=>AL (f.eval Z) (f.eval Z) CK) fun a f=>Am 3 17 Z f Z fun a f=> ?_
   obtain⟨bl,bm,bi⟩:=bind_some bi
   refine CY (fuel':=0) (listed':= #[true,true,true,true,true,true,true,true,true,true,true,true,true,true,true,true,true]) (fun a=>Fr a 178 [(0,v0),(1,(.int .i64 x1)),(4,(.func (.func 76) #[] #[])),(12,(.int .i64 aE)),(13,(.int .i64 bf)),(50,(.int .i64 aE)),(51,(.int .i64 bf)),(52,(.bool (decide (aE≤bf)))),(53,(.bool (decide (aE≤bf)))),(66,(.bool bl))]) ?_ ?_
   ·intro a f
    refine AU fun bn w bo m=> ?_
    have aB:=Ow.mono (RTg.mono (RI.mono _)) bo aB
    refine Aa ?_
    rcases Ae bi with⟨bp,bi⟩|⟨bp,bi⟩
    ·refine Ak f Z bp ?_
     refine Al ?_
     refine Aj (Ah ?_)
     refine Ab f Z fun a f=>Ai f Z Z A8 fun a f=>Ad f Z fun a f=>Aa ?_
     obtain rfl:=sj bi
     exact⟨_,Z,_,Z,_,(gt bk bo),f.k Z,m⟩
    ·refine Ag f Z bp ?_
     refine Aw Z ?_
     obtain rfl:=sj bi
     obtain rfl:=bj _ rfl
     exact⟨_,Z,_,(gt bk bo),f.k Z,m⟩
   ·intro bq
    rcases Ae bm with⟨br,bm⟩|⟨br,bm⟩
    ·refine Am (hw:=wo f br) 4 17 Z f Z fun a f=> ?_
     refine Am (hw:=wo f br) 5 17 Z f Z fun a f=>Am (hw:=wo f br) 6 17 Z f Z fun a f=> ?_
     obtain⟨bs,bt,bm⟩:=bind_some bm
     refine AW (hw:=wo f br) 7 17 0 m aB T27 bt Z f Z Z fun bu a bv f=>Bg (hw:=wo f br) 8 17 0 aB AO bv bt Z f Z fun bw a bx f=>Am (hw:=wo f br) 9 17 Z f Z fun a f=>Am (hw:=wo f br) 10 17 Z f Z fun a f=> ?_
     obtain⟨bz,bA,bm⟩:=bind_some bm
     refine AW (hw:=wo f br) 11 17 0 m aB T27 bA Z f Z Z fun bB a bC f=>Bg (hw:=wo f br) 12 17 0 aB AO bC bA Z f Z fun bD a bE f=> ?_
     obtain⟨bF,bG,bm⟩:=bind_some bm
     refine Cp (i:=13) 17 Z (by kernel_rfl) Z f (Bz f Z Z Z br) Z Z Z Tryz.call76 (fun _ _ w bH m=>Wk.b m (rd1 bH (bx.2)) (rd1 bH (bE.2)) bG) fun a f=>q_p (hw:=wo f br) 14 17 Z f (fun _=>AL (f.eval Z) (f.eval Z) AA) fun a f=>q_p (hw:=wo f br) 15 17 Z f (fun _=>Bs (f.eval Z)) fun a f=>q_p 16 17 Z f (fun _=>A3 (f.eval Z) br (f.eval Z)) fun a f=> ?_
     obtain rfl:=sj bm
     exact bq _ (f.k Z)
    ·refine Ax 4 17 Z f br fun a f=> ?_
     refine Ax 5 17 Z f br fun a f=>Ax 6 17 Z f br fun a f=>Ax 7 17 Z f br fun a f=>Ax 8 17 Z f br fun a f=>Ax 9 17 Z f br fun a f=>Ax 10 17 Z f br fun a f=>Ax 11 17 Z f br fun a f=>Ax 12 17 Z f br fun a f=>Ax 13 17 Z f br fun a f=>Ax 14 17 Z f br fun a f=>Ax 15 17 Z f br fun a f=>q_p 16 17 Z f (fun _=>A2 (f.eval Z) br (f.eval Z)) fun a f=> ?_
     obtain rfl:=sj bm
     exact bq _ (f.k Z)
  ·rintro a w ⟨bc,rfl,bd,bI,f,m⟩
   have aB:=Ow.mono (RTg.mono (RI.mono _)) bI aB
   refine Af (Ac ?_)
   refine Ab f Z fun a f=>Ab f Z fun a f=>Ai f Z Z Cr fun a f=>Aa ?_
   rcases Ae hd with⟨bJ,hd⟩|⟨bJ,hd⟩
   ·refine Ak f Z bJ ?_
    refine Af ?_
    refine Cd AI m ?_
    refine p_p 2 Z (by kernel_rfl) f Z Z Z (fun _=>AM (f.eval Z)) fun a f=>p_p 3 Z (by kernel_rfl) f Z Z Z (fun _=>AM (f.eval Z)) fun a f=>Cb 12013 11 (by kernel_rfl) Z ?_
    refine Am 0 12013 Z f Z fun a f=>Am 1 12013 Z f Z fun a f=>Am 4 12013 Z f Z fun a f=>Am 5 12013 Z f Z fun a f=> ?_
    obtain⟨bK,bL,hd⟩:=bind_some hd
    refine AW 6 12013 0 m aB T27 bL Z f Z Z fun bM a bN f=>Bg 7 12013 0 aB AO bN bL Z f Z fun bO a bP f=>Am 8 12013 Z f Z fun a f=>Am 9 12013 Z f Z fun a f=> ?_
    obtain⟨bQ,bR,hd⟩:=bind_some hd
    refine AW 10 12013 0 m aB T27 bR Z f Z Z fun bS a bT f=>Bg 11 12013 0 aB AO bT bR Z f Z fun bU a bV f=> ?_
    obtain⟨bW,bX,hd⟩:=bind_some hd
    refine AW 12 12013 0 m aB T27 bX Z f Z Z fun bY a bZ f=>AU fun b0 w b1 m=> ?_
    have bP:=(RTg.mono (RI.mono _)) _ _ _ _ b1 bP
    have bV:=(RTg.mono (RI.mono _)) _ _ _ _ b1 bV
    have aB:=Ow.mono (RTg.mono (RI.mono _)) b1 aB
    refine AH 0 m aB Z Tryz.sizeOf31 f Z Z bZ bX bP.cells bP.one1 bP fun b2 w m b3=> ?_
    obtain⟨b4,b5,hd⟩:=bind_some hd
    refine AV 0 m b3 Z T27 f Z Z Z b5 fun b6 a b7 f=>AH 0 m b3 Z Tryz.sizeOf31 f Z Z b7 b5 bV.cells bV.one1 bV fun b8 w m b9=>Aa (Ac ?_)
    refine Ab f Z fun a f=>Ad f Z fun a f=>Ad f Z fun a f=>Aa ?_
    refine Ao ?_
    obtain rfl:=sj hd
    exact⟨[(.int .i64 bc),(.bool true)],⟨f.get _ _ Z,f.get _ _ Z,trivial⟩,f.defers,_,[b8],(gt ar (gt a9 (gt bI b1))),m,_,Z,Z,b9⟩
   ·refine Ag f Z bJ ?_
    refine Al ?_
    refine Af ?_
    refine Cd AI m ?_
    refine p_p 2 Z (by kernel_rfl) f Z Z Z (fun _=>AM (f.eval Z)) fun a f=>p_p 3 Z (by kernel_rfl) f Z Z Z (fun _=>AM (f.eval Z)) fun a f=>Cb 12013 11 (by kernel_rfl) Z ?_
    refine Am 0 12013 Z f Z fun a f=>Am 1 12013 Z f Z fun a f=>Am 4 12013 Z f Z fun a f=>Am 5 12013 Z f Z fun a f=> ?_
    obtain⟨ca,cb,hd⟩:=bind_some hd
    refine AW 6 12013 0 m aB T27 cb Z f Z Z fun cc a cd f=>Bg 7 12013 0 aB AO cd cb Z f Z fun ce a cf f=>Am 8 12013 Z f Z fun a f=>Am 9 12013 Z f Z fun a f=> ?_
    obtain⟨cg,ch,hd⟩:=bind_some hd
    refine AW 10 12013 0 m aB T27 ch Z f Z Z fun ci a cj f=>Bg 11 12013 0 aB AO cj ch Z f Z fun ck a cl f=> ?_
    obtain⟨cm,cn,hd⟩:=bind_some hd
    refine AW 12 12013 0 m aB T27 cn Z f Z Z fun co a cp f=>AU fun cq w cr m=> ?_
    have cf:=(RTg.mono (RI.mono _)) _ _ _ _ cr cf
    have cl:=(RTg.mono (RI.mono _)) _ _ _ _ cr cl
    have aB:=Ow.mono (RTg.mono (RI.mono _)) cr aB
    refine AH 0 m aB Z Tryz.sizeOf31 f Z Z cp cn cf.cells cf.one1 cf fun cs w m ct=> ?_
    obtain⟨cu,cv,hd⟩:=bind_some hd
    refine AV 0 m ct Z T27 f Z Z Z cv fun cw a cx f=>AH 0 m ct Z Tryz.sizeOf31 f Z Z cx cv cl.cells cl.one1 cl fun cy w m cz=>Aa (Ac ?_)
    refine Ab f Z fun a f=>Ai f Z Z As fun a f=>Ad f Z fun a f=>Aa (Ac ?_)
    refine Ab f Z fun a f=>Ai f Z Z A8 fun a f=>Ad f Z fun a f=>Aa (Af ?_)
    obtain⟨cA,cB,hd⟩:=bind_some hd
    refine AF (fun a w=>∃cC:List (Value×List Int),∃cD:Int,(cC,cD)=cA∧∃(cE:GH) (cF:Itm),GLe cq cE∧Fr a 178 [(0,v0),(1,(.int .i64 x1)),(13,(.int .i64 cD))]∧Mem W cE w (cF::H)∧Ow (RTg (RI .i64)) 31 cE cF v0 cC) ?_ ?_
    ·refine Aj ?_
     refine AC (fun cG a w=>∃cH:List (Value×List Int),∃cI:Int,∃cJ:Int,(cH,cI,cJ)=cG∧∃(cK:GH) (cL:Itm),GLe cq cK∧Fr a 178 [(0,v0),(1,(.int .i64 x1)),(4,(.func (.func 76) #[] #[])),(12,(.int .i64 cI)),(13,(.int .i64 cJ))]∧Mem W cK w (cL::H)∧Ow (RTg (RI .i64)) 31 cK cL v0 cH) cB ⟨_,_,_,Z,_,cy,gr,f.k Z,m,cz⟩ ?_
     clear cB f m
     rintro cG cM cN cO a w ⟨cH,cI,cJ,rfl,cK,cL,cP,f,m,cQ⟩
     refine Aj (Af ?_)
     obtain⟨cR,cS,cN⟩:=bind_some cN
     refine AF (fun a w=>∃cT:Int,cT=cR∧∃(cU:GH),GLe cK cU∧Fr a 178 [(0,v0),(1,(.int .i64 x1)),(4,(.func (.func 76) #[] #[])),(12,(.int .i64 cT)),(13,(.int .i64 cJ))]∧Mem W cU w (cL::H)) ?_ ?_
     ·refine Aj ?_
      refine AC (fun cV a w=>∃cW:Int,cW=cV∧∃(cX:GH),GLe cK cX∧Fr a 178 [(0,v0),(1,(.int .i64 x1)),(4,(.func (.func 76) #[] #[])),(12,(.int .i64 cW)),(13,(.int .i64 cJ))]∧Mem W cX w (cL::H)) cS ⟨_,Z,_,gr,f.k Z,m⟩ ?_
      clear cS f m
      rintro cV cY cZ c0 a w ⟨cW,rfl,cX,c1,f,m⟩
      have cQ:=Ow.mono (RTg.mono (RI.mono _)) c1 cQ
      refine Af (Af ?_)
      refine AY 16 AI (by kernel_rfl) m ?_
      refine Am 0 16 Z f Z fun a f=>Am 1 16 Z f Z fun a f=>q_p 2 16 Z f (fun _=>AL (f.eval Z) (f.eval Z) CK) fun a f=>Am 3 16 Z f Z fun a f=> ?_
      obtain⟨c2,c3,cZ⟩:=bind_some cZ
      refine CY (fuel':=0) (listed':= #[true,true,true,true,true,true,true,true,true,true,true,true,true,true,true,true]) (fun a=>Fr a 178 [(0,v0),(1,(.int .i64 x1)),(4,(.func (.func 76) #[] #[])),(12,(.int .i64 cW)),(13,(.int .i64 cJ)),(105,(.int .i64 cW)),(106,(.int .i64 cJ)),(107,(.bool (decide (cW≤cJ)))),(108,(.bool (decide (cW≤cJ)))),(120,(.bool c2))]) ?_ ?_
      ·intro a f
       refine AU fun c4 w c5 m=> ?_
       have cQ:=Ow.mono (RTg.mono (RI.mono _)) c5 cQ
       refine Aa ?_
       rcases Ae cZ with⟨c6,cZ⟩|⟨c6,cZ⟩
       ·refine Ak f Z c6 ?_
        refine Al ?_
        refine Aj (Ah ?_)
        refine Ab f Z fun a f=>Ai f Z Z As fun a f=>Ad f Z fun a f=>Aa ?_
        obtain rfl:=sj cZ
        exact⟨_,Z,_,Z,_,(gt c1 c5),f.k Z,m⟩
       ·refine Ag f Z c6 ?_
        refine Aw Z ?_
        obtain rfl:=sj cZ
        obtain rfl:=c0 _ rfl
        exact⟨_,Z,_,(gt c1 c5),f.k Z,m⟩
      ·intro c7
       rcases Ae c3 with⟨c8,c3⟩|⟨c8,c3⟩
       ·refine Am (hw:=wo f c8) 4 16 Z f Z fun a f=> ?_
        refine Am (hw:=wo f c8) 5 16 Z f Z fun a f=>Am (hw:=wo f c8) 6 16 Z f Z fun a f=> ?_
        obtain⟨c9,da,c3⟩:=bind_some c3
        refine AW (hw:=wo f c8) 7 16 0 m cQ T27 da Z f Z Z fun db a dc f=>Bg (hw:=wo f c8) 8 16 0 cQ AO dc da Z f Z fun dd a de f=>Am (hw:=wo f c8) 9 16 Z f Z fun a f=>Am (hw:=wo f c8) 10 16 Z f Z fun a f=> ?_
        obtain⟨df,dg,c3⟩:=bind_some c3
        refine AW (hw:=wo f c8) 11 16 0 m cQ T27 dg Z f Z Z fun dh a di f=>Bg (hw:=wo f c8) 12 16 0 cQ AO di dg Z f Z fun dj a dk f=> ?_
        obtain⟨dl,dm,c3⟩:=bind_some c3
        refine Cp (i:=13) 16 Z (by kernel_rfl) Z f (Bz f Z Z Z c8) Z Z Z Tryz.call76 (fun _ _ w dn m=>Wk.b m (rd1 dn (de.2)) (rd1 dn (dk.2)) dm) fun a f=>q_p (hw:=wo f c8) 14 16 Z f (fun _=>AL (f.eval Z) (f.eval Z) AA) fun a f=>q_p 15 16 Z f (fun _=>A3 (f.eval Z) c8 (f.eval Z)) fun a f=> ?_
        obtain rfl:=sj c3
        exact c7 _ (f.k Z)
       ·refine Ax 4 16 Z f c8 fun a f=> ?_
        refine Ax 5 16 Z f c8 fun a f=>Ax 6 16 Z f c8 fun a f=>Ax 7 16 Z f c8 fun a f=>Ax 8 16 Z f c8 fun a f=>Ax 9 16 Z f c8 fun a f=>Ax 10 16 Z f c8 fun a f=>Ax 11 16 Z f c8 fun a f=>Ax 12 16 Z f c8 fun a f=>Ax 13 16 Z f c8 fun a f=>Ax 14 16 Z f c8 fun a f=>q_p 15 16 Z f (fun _=>A2 (f.eval Z) c8 (f.eval Z)) fun a f=> ?_
        obtain rfl:=sj c3
        exact c7 _ (f.k Z)
     ·rintro a w ⟨cT,rfl,cU,dp,f,m⟩
      have cQ:=Ow.mono (RTg.mono (RI.mono _)) dp cQ
      refine Af ?_
      obtain⟨dq,dr,cN⟩:=bind_some cN
      refine AF (fun a w=>∃ds:Int,ds=dq∧∃(dt:GH),GLe cU dt∧Fr a 178 [(0,v0),(1,(.int .i64 x1)),(4,(.func (.func 76) #[] #[])),(12,(.int .i64 cT)),(13,(.int .i64 ds))]∧Mem W dt w (cL::H)) ?_ ?_
      ·refine Aj ?_
       refine AC (fun du a w=>∃dv:Int,dv=du∧∃(dw:GH),GLe cU dw∧Fr a 178 [(0,v0),(1,(.int .i64 x1)),(4,(.func (.func 76) #[] #[])),(12,(.int .i64 cT)),(13,(.int .i64 dv))]∧Mem W dw w (cL::H)) dr ⟨_,Z,_,gr,f.k Z,m⟩ ?_
       clear dr f m
       rintro du dx dy dz a w ⟨dv,rfl,dw,dA,f,m⟩
       have cQ:=Ow.mono (RTg.mono (RI.mono _)) dA cQ
       refine Af (Af ?_)
       refine AY 17 AI (by kernel_rfl) m ?_
       refine Am 0 17 Z f Z fun a f=>Am 1 17 Z f Z fun a f=>q_p 2 17 Z f (fun _=>AL (f.eval Z) (f.eval Z) CK) fun a f=>Am 3 17 Z f Z fun a f=> ?_
       obtain⟨dB,dC,dy⟩:=bind_some dy
       refine CY (fuel':=0) (listed':= #[true,true,true,true,true,true,true,true,true,true,true,true,true,true,true,true,true]) (fun a=>Fr a 178 [(0,v0),(1,(.int .i64 x1)),(4,(.func (.func 76) #[] #[])),(12,(.int .i64 cT)),(13,(.int .i64 dv)),(123,(.int .i64 cT)),(124,(.int .i64 dv)),(125,(.bool (decide (cT≤dv)))),(126,(.bool (decide (cT≤dv)))),(139,(.bool dB))]) ?_ ?_
       ·intro a f
        refine AU fun dD w dE m=> ?_
        have cQ:=Ow.mono (RTg.mono (RI.mono _)) dE cQ
        refine Aa ?_
        rcases Ae dy with⟨dF,dy⟩|⟨dF,dy⟩
        ·refine Ak f Z dF ?_
         refine Al ?_
         refine Aj (Ah ?_)
         refine Ab f Z fun a f=>Ai f Z Z A8 fun a f=>Ad f Z fun a f=>Aa ?_
         obtain rfl:=sj dy
         exact⟨_,Z,_,Z,_,(gt dA dE),f.k Z,m⟩
        ·refine Ag f Z dF ?_
         refine Aw Z ?_
         obtain rfl:=sj dy
         obtain rfl:=dz _ rfl
         exact⟨_,Z,_,(gt dA dE),f.k Z,m⟩
       ·intro dG
        rcases Ae dC with⟨dH,dC⟩|⟨dH,dC⟩
        ·refine Am (hw:=wo f dH) 4 17 Z f Z fun a f=> ?_
         refine Am (hw:=wo f dH) 5 17 Z f Z fun a f=>Am (hw:=wo f dH) 6 17 Z f Z fun a f=> ?_
         obtain⟨dI,dJ,dC⟩:=bind_some dC
         refine AW (hw:=wo f dH) 7 17 0 m cQ T27 dJ Z f Z Z fun dK a dL f=>Bg (hw:=wo f dH) 8 17 0 cQ AO dL dJ Z f Z fun dM a dN f=>Am (hw:=wo f dH) 9 17 Z f Z fun a f=>Am (hw:=wo f dH) 10 17 Z f Z fun a f=> ?_
         obtain⟨dO,dP,dC⟩:=bind_some dC
         refine AW (hw:=wo f dH) 11 17 0 m cQ T27 dP Z f Z Z fun dQ a dR f=>Bg (hw:=wo f dH) 12 17 0 cQ AO dR dP Z f Z fun dS a dT f=> ?_
         obtain⟨dU,dV,dC⟩:=bind_some dC
         refine Cp (i:=13) 17 Z (by kernel_rfl) Z f (Bz f Z Z Z dH) Z Z Z Tryz.call76 (fun _ _ w dW m=>Wk.b m (rd1 dW (dN.2)) (rd1 dW (dT.2)) dV) fun a f=>q_p (hw:=wo f dH) 14 17 Z f (fun _=>AL (f.eval Z) (f.eval Z) AA) fun a f=>q_p (hw:=wo f dH) 15 17 Z f (fun _=>Bs (f.eval Z)) fun a f=>q_p 16 17 Z f (fun _=>A3 (f.eval Z) dH (f.eval Z)) fun a f=> ?_
         obtain rfl:=sj dC
         exact dG _ (f.k Z)
        ·refine Ax 4 17 Z f dH fun a f=> ?_
         refine Ax 5 17 Z f dH fun a f=>Ax 6 17 Z f dH fun a f=>Ax 7 17 Z f dH fun a f=>Ax 8 17 Z f dH fun a f=>Ax 9 17 Z f dH fun a f=>Ax 10 17 Z f dH fun a f=>Ax 11 17 Z f dH fun a f=>Ax 12 17 Z f dH fun a f=>Ax 13 17 Z f dH fun a f=>Ax 14 17 Z f dH fun a f=>Ax 15 17 Z f dH fun a f=>q_p 16 17 Z f (fun _=>A2 (f.eval Z) dH (f.eval Z)) fun a f=> ?_
         obtain rfl:=sj dC
         exact dG _ (f.k Z)
      ·rintro a w ⟨ds,rfl,dt,dX,f,m⟩
       have cQ:=Ow.mono (RTg.mono (RI.mono _)) dX cQ
       refine Af (Ac ?_)
       refine Ab f Z fun a f=>Ab f Z fun a f=>Ai f Z Z Cr fun a f=>Aa ?_
       rcases Ae cN with⟨dY,cN⟩|⟨dY,cN⟩
       ·refine Ak f Z dY ?_
        refine Aw Z ?_
        obtain rfl:=sj cN
        obtain rfl:=cO _ rfl
        exact⟨_,_,Z,_,cL,(gt cP (gt dp dX)),f.k Z,m,cQ⟩
       ·refine Ag f Z dY ?_
        refine Al ?_
        refine Af ?_
        refine Cd AI m ?_
        refine p_p 2 Z (by kernel_rfl) f Z Z Z (fun _=>AM (f.eval Z)) fun a f=>p_p 3 Z (by kernel_rfl) f Z Z Z (fun _=>AM (f.eval Z)) fun a f=>Cb 12013 11 (by kernel_rfl) Z ?_
        refine Am 0 12013 Z f Z fun a f=>Am 1 12013 Z f Z fun a f=>Am 4 12013 Z f Z fun a f=>Am 5 12013 Z f Z fun a f=> ?_
        obtain⟨dZ,d0,cN⟩:=bind_some cN
        refine AW 6 12013 0 m cQ T27 d0 Z f Z Z fun d1 a d2 f=>Bg 7 12013 0 cQ AO d2 d0 Z f Z fun d3 a d4 f=>Am 8 12013 Z f Z fun a f=>Am 9 12013 Z f Z fun a f=> ?_
        obtain⟨d5,d6,cN⟩:=bind_some cN
        refine AW 10 12013 0 m cQ T27 d6 Z f Z Z fun d7 a d8 f=>Bg 11 12013 0 cQ AO d8 d6 Z f Z fun d9 a ea f=> ?_
        obtain⟨eb,ec,cN⟩:=bind_some cN
        refine AW 12 12013 0 m cQ T27 ec Z f Z Z fun ed a ee f=>AU fun ef w eg m=> ?_
        have d4:=(RTg.mono (RI.mono _)) _ _ _ _ eg d4
        have ea:=(RTg.mono (RI.mono _)) _ _ _ _ eg ea
        have cQ:=Ow.mono (RTg.mono (RI.mono _)) eg cQ
        refine AH 0 m cQ Z Tryz.sizeOf31 f Z Z ee ec d4.cells d4.one1 d4 fun eh w m ei=> ?_
        obtain⟨ej,ek,cN⟩:=bind_some cN
        refine AV 0 m ei Z T27 f Z Z Z ek fun el a em f=>AH 0 m ei Z Tryz.sizeOf31 f Z Z em ek ea.cells ea.one1 ea fun en w m eo=>Aa (Ac ?_)
        refine Ab f Z fun a f=>Ai f Z Z As fun a f=>Ad f Z fun a f=>Aa (Ah ?_)
        refine Ab f Z fun a f=>Ai f Z Z A8 fun a f=>Ad f Z fun a f=>Aa ?_
        obtain rfl:=sj cN
        exact⟨_,Z,_,_,_,Z,_,en,(gt cP (gt dp (gt dX eg))),f.k Z,m,eo⟩
    ·rintro a w ⟨cC,cD,rfl,cE,cF,ep,f,m,eq⟩
     refine Af ?_
     refine Cd AI m ?_
     refine p_p 2 Z (by kernel_rfl) f Z Z Z (fun _=>AM (f.eval Z)) fun a f=>p_p 3 Z (by kernel_rfl) f Z Z Z (fun _=>AM (f.eval Z)) fun a f=>Cb 12013 11 (by kernel_rfl) Z ?_
     refine Am 0 12013 Z f Z fun a f=>Am 1 12013 Z f Z fun a f=>Am 4 12013 Z f Z fun a f=>Am 5 12013 Z f Z fun a f=> ?_
     obtain⟨er,es,hd⟩:=bind_some hd
     refine AW 6 12013 0 m eq T27 es Z f Z Z fun et a eu f=>Bg 7 12013 0 eq AO eu es Z f Z fun ev a ew f=>Am 8 12013 Z f Z fun a f=>Am 9 12013 Z f Z fun a f=> ?_
     obtain⟨ex,ey,hd⟩:=bind_some hd
     refine AW 10 12013 0 m eq T27 ey Z f Z Z fun ez a eA f=>Bg 11 12013 0 eq AO eA ey Z f Z fun eB a eC f=> ?_
     obtain⟨eD,eE,hd⟩:=bind_some hd
     refine AW 12 12013 0 m eq T27 eE Z f Z Z fun eF a eG f=>AU fun eH w eI m=> ?_
     have ew:=(RTg.mono (RI.mono _)) _ _ _ _ eI ew
     have eC:=(RTg.mono (RI.mono _)) _ _ _ _ eI eC
     have eq:=Ow.mono (RTg.mono (RI.mono _)) eI eq
     refine AH 0 m eq Z Tryz.sizeOf31 f Z Z eG eE ew.cells ew.one1 ew fun eJ w m eK=> ?_
     obtain⟨eL,eM,hd⟩:=bind_some hd
     refine AV 0 m eK Z T27 f Z Z Z eM fun eN a eO f=>AH 0 m eK Z Tryz.sizeOf31 f Z Z eO eM eC.cells eC.one1 eC fun eP w m eQ=>Aa (Ac ?_)
     refine Ab f Z fun a f=>Ad f Z fun a f=>Ad f Z fun a f=>Aa ?_
     refine Ao ?_
     obtain rfl:=sj hd
     exact⟨[(.int .i64 cD),(.bool false)],⟨f.get _ _ Z,f.get _ _ Z,trivial⟩,f.defers,_,[eP],(gt ar (gt a9 (gt bI (gt cr (gt ep eI))))),m,_,Z,Z,eQ⟩
theorem Wk.L {W:World}(n:Nat):∀{w:World} {G:GH} {H:List Itm} {v0:Value} {it0:Itm} {x0:(List (Value×List Int))} {x1:Int} {x2:Int} {x3:Int} (m:Mem W G w (it0::H)) (o0:Ow (RTg (RI .i64)) 31 G it0 v0 x0) {y:((List (Value×List Int)))} (hd:D.L n x0 x1 x2 x3=some y),
  Calls Tryz.prog 108 #[v0,(.int .i64 x1),(.int .i64 x2),(.int .i64 x3),(.func (.func 76) #[] #[])] w (Res W G H (fun G' Ho _=>∃i0:Itm,Ho=[i0]∧Ow (RTg (RI .i64)) 31 G' i0 v0 y)):=by
 induction n with
 |zero=>intros;rename_i hd;simp[D.L] at hd
 |succ fuel ih=>
  intro w G H v0 it0 x0 x1 x2 x3 m o0 y hd
  refine Aq (args:=[v0,(.int .i64 x1),(.int .i64 x2),(.int .i64 x3),(.func (.func 76) #[] #[])]) (N:=148) [] Tryz.func108 Z Z (Nat.le_of_ble_eq_true Z) Z fun a f=> ?_
  unfold D.L at hd
  refine Ac ?_
  refine Ad f Z fun a f=>Aa (Ac ?_)
  refine Ad f Z fun a f=>Aa ?_
  obtain⟨aa,ab,hd⟩:=bind_some hd
  refine Aj ?_
  refine AC (fun ac a w=>∃ad:List (Value×List Int),∃ae:Int,∃af:Int,∃ag:Int,∃ah:Bool,∃ai:Bool,(ad,ae,af,ag,ah,ai)=ac∧∃(aj:GH) (ak:Itm),GLe G aj∧Fr a 148 [(0,v0),(1,(.int .i64 ae)),(2,(.int .i64 af)),(3,(.int .i64 ag)),(4,(.func (.func 76) #[] #[])),(10,(.bool ah)),(11,(.bool ai))]∧Mem W aj w (ak::H)∧Ow (RTg (RI .i64)) 31 aj ak v0 ad) ab ⟨_,_,_,_,_,_,Z,_,it0,gr,f.k Z,m,o0⟩ ?_
  clear ab f m
  rintro ac al am an a w ⟨ad,ae,af,ag,ah,ai,rfl,aj,ak,ao,f,m,ap⟩
  refine Aj (Ac ?_)
  refine Ab f Z fun a f=>Ab f Z fun a f=>Ai f Z Z A8 fun a f=>Ad f Z fun a f=>Aa (Af (Ac ?_))
  refine Ab f Z fun a f=>Ai f Z Z CK fun a f=>Aa ?_
  rcases Ae am with⟨aq,am⟩|⟨aq,am⟩
  ·refine Ak f Z aq ?_
   refine Ac ?_
   refine Ab f Z fun a f=>Ab f Z fun a f=>Ab f Z fun a f=>Ab f Z fun a f=> ?_
   obtain⟨ar,au,am⟩:=bind_some am
   refine AK f Z Tryz.call126 (Wk.m1 m ap au) fun av aw ax w ay m az a f=> ?_
   obtain⟨aA,rfl,aB⟩:=az
   refine Aa ?_
   refine Ao ?_
   obtain rfl:=sj am
   obtain rfl:=an _ rfl
   obtain rfl:=sj hd
   exact⟨[],trivial,f.defers,_,[aA],(gt ao ay),m,_,Z,aB⟩
  ·refine Ag f Z aq ?_
   refine Al ?_
   refine Af (Ac ?_)
   refine Ab f Z fun a f=>Ai f Z Z BH fun a f=>Aa ?_
   rcases Ae am with⟨aC,am⟩|⟨aC,am⟩
   ·refine Ak f Z aC ?_
    refine Ac ?_
    refine Ab f Z fun a f=>Ab f Z fun a f=>Ab f Z fun a f=>Ab f Z fun a f=> ?_
    obtain⟨aD,aE,am⟩:=bind_some am
    refine AK f Z Tryz.call127 (Wk.d1 m ap aE) fun aF aG aH w aI m aJ a f=> ?_
    obtain⟨aK,rfl,aL⟩:=aJ
    refine Aa ?_
    refine Ao ?_
    obtain rfl:=sj am
    obtain rfl:=an _ rfl
    obtain rfl:=sj hd
    exact⟨[],trivial,f.defers,_,[aK],(gt ao aI),m,_,Z,aL⟩
   ·refine Ag f Z aC ?_
    refine Al ?_
    refine Af (Ac ?_)
    refine Ab f Z fun a f=>l_o f (Bs (f.eval Z)) fun a f=>Aa ?_
    obtain⟨aM,aN,am⟩:=bind_some am
    refine AF (fun a w=>∃aO:List (Value×List Int),∃aP:Int,(aO,aP)=aM∧∃(aQ:GH) (aR:Itm),GLe aj aQ∧Fr a 148 [(0,v0),(1,(.int .i64 ae)),(2,(.int .i64 af)),(3,(.int .i64 aP)),(4,(.func (.func 76) #[] #[])),(10,(.bool ah)),(11,(.bool ai)),(12,(.int .i64 (IntKind.i64.wrap (af-ae))))]∧Mem W aQ w (aR::H)∧Ow (RTg (RI .i64)) 31 aQ aR v0 aO) ?_ ?_
    ·rcases Ae aN with⟨aS,aN⟩|⟨aS,aN⟩
     ·refine Ak f Z aS ?_
      refine Ac ?_
      refine Ab f Z fun a f=>Ab f Z fun a f=>Ab f Z fun a f=>Ab f Z fun a f=> ?_
      obtain⟨aT,aU,aN⟩:=bind_some aN
      refine AK f Z Tryz.call128 (Wk.t1 m ap aU) fun aV aW aX w aY m aZ a f=> ?_
      obtain⟨a0,rfl,a1⟩:=aZ
      refine Aa (Ah ?_)
      refine Ab f Z fun a f=>Ai f Z Z A8 fun a f=>Ad f Z fun a f=>Aa ?_
      obtain rfl:=sj aN
      exact⟨_,_,Z,_,a0,aY,f.k Z,m,a1⟩
     ·refine Ag f Z aS ?_
      refine Al ?_
      obtain rfl:=sj aN
      exact⟨_,_,Z,_,ak,gr,f.k Z,m,ap⟩
    ·rintro a w ⟨aO,aP,rfl,aQ,aR,a2,f,m,a3⟩
     refine Ac ?_
     refine Ab f Z fun a f=>Ab f Z fun a f=>Ab f Z fun a f=>Ab f Z fun a f=> ?_
     obtain⟨a4,a5,am⟩:=bind_some am
     refine AK f Z Tryz.call129 (Wk.c1 m a3 a5) fun a6 a7 a8 w a9 m ba a f=> ?_
     obtain⟨bb,rfl,rfl,bc⟩:=ba
     refine Ab f Z fun a f=>l_o f (A9 (f.eval Z) Z) fun a f=>l_o f (A9 (f.eval Z) Z) fun a f=>Ad f Z fun a f=>Ad f Z fun a f=>Aa (Af (Ac ?_))
     refine Ab f Z fun a f=>Ai f Z Z BH fun a f=>Aa ?_
     obtain⟨bd,be,am⟩:=bind_some am
     refine AF (fun a w=>∃bf:List (Value×List Int),∃bg:Int,∃bh:Int,(bf,bg,bh)=bd∧∃(bi:GH) (bj:Itm),GLe a7 bi∧Fr a 148 [(0,v0),(1,(.int .i64 ae)),(2,(.int .i64 af)),(3,(.int .i64 aP)),(4,(.func (.func 76) #[] #[])),(10,(.bool ah)),(11,(.bool ai)),(12,(.int .i64 (IntKind.i64.wrap (af-ae)))),(13,(.int .i64 bg)),(14,(.int .i64 bh))]∧Mem W bi w (bj::H)∧Ow (RTg (RI .i64)) 31 bi bj v0 bf) ?_ ?_
     ·rcases Ae be with⟨bk,be⟩|⟨bk,be⟩
      ·refine Ak f Z bk ?_
       refine Ac ?_
       refine Ab f Z fun a f=>Ab f Z fun a f=>Ab f Z fun a f=>Ab f Z fun a f=> ?_
       obtain⟨bl,bm,be⟩:=bind_some be
       refine AK f Z Tryz.call130 (Wk.l1 m bc bm) fun bn bo bp w bq m br a f=> ?_
       obtain⟨bs,rfl,bt⟩:=br
       refine Aa (Ac ?_)
       refine Ab f Z fun a f=>Ai f Z Z A8 fun a f=>Ab f Z fun a f=>Ab f Z fun a f=>Ai f Z Z A8 fun a f=>Ai f Z Z A8 fun a f=>Ad f Z fun a f=>Aa (Ah ?_)
       refine Ad f Z fun a f=>Aa ?_
       obtain rfl:=sj be
       exact⟨_,_,_,Z,_,bs,bq,f.k Z,m,bt⟩
      ·refine Ag f Z bk ?_
       refine Al ?_
       obtain rfl:=sj be
       exact⟨_,_,_,Z,_,bb,gr,f.k Z,m,bc⟩
     ·rintro a w ⟨bf,bg,bh,rfl,bi,bj,bu,f,m,bv⟩
      refine Af (Ac ?_)
      refine Ab f Z fun a f=>Ab f Z fun a f=> ?_
      refine BA 2 (fun a w=>∃bw,GLe bi bw∧Mem W bw w (bj::H)∧Fr a 148 [(0,v0),(1,(.int .i64 ae)),(2,(.int .i64 af)),(3,(.int .i64 aP)),(4,(.func (.func 76) #[] #[])),(10,(.bool ah)),(11,(.bool ai)),(12,(.int .i64 (IntKind.i64.wrap (af-ae)))),(13,(.int .i64 bg)),(14,(.int .i64 bh)),(68,(.bool ah)),(69,(.bool ah)),(71,(.bool (ah&&ai)))]) ?_ ?_
      ·rcases Bool.eq_false_or_eq_true ah with bx|bx
       ·refine Az f bx ?_
        refine Ab f Z fun a f=>l_o f (A3 (f.eval Z) bx (f.eval Z)) fun a f=> ?_
        exact⟨_,gr,m,f.weak ⟨Z,Z,Z,Z,Z,Z,Z,Z,Z,Z,Z,Z,by rw[bx];rfl,trivial⟩⟩
       ·refine AB f bx fun a f=> ?_
        refine l_o f (A2 (f.eval Z) bx (f.eval Z)) fun a f=> ?_
        exact⟨_,gr,m,f.weak ⟨Z,Z,Z,Z,Z,Z,Z,Z,Z,Z,Z,Z,by rw[bx];rfl,trivial⟩⟩
      ·rintro a w ⟨bw,bz,m,f⟩
       have bv:=Ow.mono (RTg.mono (RI.mono _)) bz bv
       refine Ab f Z fun a f=> ?_
       refine BA 3 (fun a w=>∃bA,GLe bw bA∧Mem W bA w (bj::H)∧Fr a 148 [(0,v0),(1,(.int .i64 ae)),(2,(.int .i64 af)),(3,(.int .i64 aP)),(4,(.func (.func 76) #[] #[])),(10,(.bool ah)),(11,(.bool ai)),(12,(.int .i64 (IntKind.i64.wrap (af-ae)))),(13,(.int .i64 bg)),(14,(.int .i64 bh)),(68,(.bool ah)),(69,(.bool ah)),(71,(.bool (ah&&ai))),(72,(.bool (ah&&ai))),(75,(.bool ((ah&&ai)&&(bh==1))))]) ?_ ?_
       ·rcases Bool.eq_false_or_eq_true (ah&&ai) with bB|bB
        ·refine Az f bB ?_
         refine Ab f Z fun a f=>Az f bB ?_
         refine Ai f Z Z BH fun a f=>l_o f (A3 (f.eval Z) bB (f.eval Z)) fun a f=> ?_
         exact⟨_,gr,m,f.weak ⟨Z,Z,Z,Z,Z,Z,Z,Z,Z,Z,Z,Z,Z,Z,by rw[bB];rfl,trivial⟩⟩
        ·refine AB f bB fun a f=> ?_
         refine AB f bB fun a f=>l_o f (A2 (f.eval Z) bB (f.eval Z)) fun a f=> ?_
         exact⟨_,gr,m,f.weak ⟨Z,Z,Z,Z,Z,Z,Z,Z,Z,Z,Z,Z,Z,Z,by rw[bB];rfl,trivial⟩⟩
       ·rintro a w ⟨bA,bC,m,f⟩
        have bv:=Ow.mono (RTg.mono (RI.mono _)) bC bv
        refine Aa ?_
        obtain⟨bD,bE,am⟩:=bind_some am
        refine AF (fun a w=>∃j_513':(List (Value×List Int)),bD= .inl j_513'∧∃bF:List (Value×List Int),bF=j_513'∧∃(bG:GH) (bH:Itm),GLe bA bG∧Fr a 148 [(0,v0),(1,(.int .i64 ae)),(2,(.int .i64 af)),(3,(.int .i64 aP)),(4,(.func (.func 76) #[] #[])),(10,(.bool ah)),(11,(.bool ai)),(12,(.int .i64 (IntKind.i64.wrap (af-ae)))),(13,(.int .i64 bg))]∧Mem W bG w (bH::H)∧Ow (RTg (RI .i64)) 31 bG bH v0 bF) ?_ ?_
        ·rcases Ae bE with⟨bI,bE⟩|⟨bI,bE⟩
         ·refine Ak f Z bI ?_
          refine Ac ?_
          refine Ab f Z fun a f=>Ab f Z fun a f=>Ab f Z fun a f=>Ab f Z fun a f=> ?_
          obtain⟨bJ,bK,bE⟩:=bind_some bE
          refine AK f Z Tryz.call131 (Wk.s1 m bv bK) fun bL bM bN w bO m bP a f=> ?_
          obtain⟨bQ,rfl,rfl,bR⟩:=bP
          refine Aa ?_
          rcases Ae bE with⟨bS,bE⟩|⟨bS,bE⟩
          ·refine Ak f Z bS ?_
           refine Ao ?_
           obtain rfl:=sj bE
           obtain rfl:=sj am
           obtain rfl:=an _ rfl
           obtain rfl:=sj hd
           exact⟨[],trivial,f.defers,_,[bQ],(gt ao (gt a2 (gt a9 (gt bu (gt bz (gt bC bO)))))),m,_,Z,bR⟩
          ·refine Ag f Z bS ?_
           refine Al ?_
           obtain rfl:=sj bE
           exact⟨_,Z,_,Z,_,bQ,bO,f.k Z,m,bR⟩
         ·refine Ag f Z bI ?_
          refine Al ?_
          obtain rfl:=sj bE
          exact⟨_,Z,_,Z,_,bj,gr,f.k Z,m,bv⟩
        ·rintro a w ⟨_,rfl,bF,rfl,bG,bH,bT,f,m,bU⟩
         refine Af (Af ?_)
         refine AY 17 AI (by kernel_rfl) m ?_
         refine Am 0 17 Z f Z fun a f=>q_p 1 17 Z f (fun _=>AL (f.eval Z) (f.eval Z) Cr) fun a f=>Am 2 17 Z f Z fun a f=> ?_
         obtain⟨bV,bW,am⟩:=bind_some am
         refine CY (fuel':=0) (listed':= #[true,true,true,true,true,true,true,true,true,true,true,true,true,true,true,true,true]) (fun a=>Fr a 148 [(0,v0),(1,(.int .i64 ae)),(2,(.int .i64 af)),(3,(.int .i64 aP)),(4,(.func (.func 76) #[] #[])),(10,(.bool ah)),(11,(.bool ai)),(12,(.int .i64 (IntKind.i64.wrap (af-ae)))),(13,(.int .i64 bg)),(81,(.int .i64 ae)),(82,(.bool (decide ((0:Int)<ae)))),(83,(.bool (decide ((0:Int)<ae)))),(97,(.bool bV))]) ?_ ?_
         ·intro a f
          refine AU fun bX w bY m=> ?_
          have bU:=Ow.mono (RTg.mono (RI.mono _)) bY bU
          refine Aa ?_
          rcases Ae am with⟨bZ,am⟩|⟨bZ,am⟩
          ·refine Ak f Z bZ ?_
           refine Ac ?_
           refine Ab f Z fun a f=>Ab f Z fun a f=>Ab f Z fun a f=>Ab f Z fun a f=>Ab f Z fun a f=> ?_
           obtain⟨b0,b1,am⟩:=bind_some am
           refine AK f Z Tryz.call132 (Wk.g1 m bU b1) fun b2 b3 b4 w b5 m b6 a f=> ?_
           obtain⟨b7,rfl,rfl,b8⟩:=b6
           refine Ad f Z fun a f=>Aa (Ac ?_)
           refine Ab f Z fun a f=>Ad f Z fun a f=>Aa ?_
           refine Aw Z ?_
           obtain rfl:=sj am
           exact⟨_,Z,_,_,_,_,_,_,Z,_,b7,(gt ao (gt a2 (gt a9 (gt bu (gt bz (gt bC (gt bT (gt bY b5)))))))),f.k Z,m,b8⟩
          ·refine Ag f Z bZ ?_
           refine Al ?_
           refine Ac ?_
           refine Ab f Z fun a f=>Ab f Z fun a f=>Ab f Z fun a f=>Ab f Z fun a f=>Ab f Z fun a f=> ?_
           obtain⟨b9,ca,am⟩:=bind_some am
           refine AK f Z Tryz.call133 (Wk.q1 m bU ca) fun cb cc cd w ce m cf a f=> ?_
           obtain⟨cg,rfl,rfl,ch⟩:=cf
           refine Ab f Z fun a f=>l_o f (A9 (f.eval Z) Z) fun a f=>l_o f (A9 (f.eval Z) Z) fun a f=>Ad f Z fun a f=>Ad f Z fun a f=>Aa (Ac ?_)
           refine Ab f Z fun a f=>Ad f Z fun a f=>Aa (Ac ?_)
           refine Ab f Z fun a f=>Ab f Z fun a f=>Ai f Z Z A8 fun a f=>Ab f Z fun a f=>Ab f Z fun a f=>Ai f Z Z A8 fun a f=>Ad f Z fun a f=>Ad f Z fun a f=>Aa (Ac ?_)
           refine Ab f Z fun a f=>Ai f Z Z (b_quo Z) fun a f=>Ad f Z fun a f=>Aa (Ac ?_)
           refine Ab f Z fun a f=>Ab f Z fun a f=>Ai f Z Z AA fun a f=>Aa ?_
           rcases Ae am with⟨ci,am⟩|⟨ci,am⟩
           ·refine Ak f Z ci ?_
            refine Ac ?_
            refine Ab f Z fun a f=>Ab f Z fun a f=>Ai f Z Z Cz fun a f=>Ad f Z fun a f=>Aa (Ac ?_)
            refine Ab f Z fun a f=>Ab f Z fun a f=>Ab f Z fun a f=>Ab f Z fun a f=>Ab f Z fun a f=> ?_
            obtain⟨cj,ck,am⟩:=bind_some am
            refine AK f Z Tryz.call108 (ih m ch ck) fun cl cm cn w co m cp a f=> ?_
            obtain⟨cq,rfl,cr⟩:=cp
            refine Aa (Ah ?_)
            refine Ab f Z fun a f=>Ai f Z Z As fun a f=>Ad f Z fun a f=>Aa ?_
            obtain rfl:=sj am
            exact⟨_,Z,_,_,_,_,_,_,Z,_,cq,(gt ao (gt a2 (gt a9 (gt bu (gt bz (gt bC (gt bT (gt bY (gt ce co))))))))),f.k Z,m,cr⟩
           ·refine Ag f Z ci ?_
            refine Ac ?_
            refine Ab f Z fun a f=>Ab f Z fun a f=>Ai f Z Z Cz fun a f=>Ad f Z fun a f=>Aa (Ac ?_)
            refine Ab f Z fun a f=>Ab f Z fun a f=>Ai f Z Z As fun a f=>Ab f Z fun a f=>Ab f Z fun a f=>Ab f Z fun a f=> ?_
            obtain⟨cs,ct,am⟩:=bind_some am
            refine AK f Z Tryz.call108 (ih m ch ct) fun cu cv cw w cx m cy a f=> ?_
            obtain⟨cz,rfl,cA⟩:=cy
            refine Aa (Ah ?_)
            refine Ab f Z fun a f=>Ad f Z fun a f=>Aa ?_
            obtain rfl:=sj am
            exact⟨_,Z,_,_,_,_,_,_,Z,_,cz,(gt ao (gt a2 (gt a9 (gt bu (gt bz (gt bC (gt bT (gt bY (gt ce cx))))))))),f.k Z,m,cA⟩
         ·intro cB
          rcases Ae bW with⟨cC,bW⟩|⟨cC,bW⟩
          ·refine Am (hw:=wo f cC) 3 17 Z f Z fun a f=> ?_
           refine Am (hw:=wo f cC) 4 17 Z f Z fun a f=>Am (hw:=wo f cC) 5 17 Z f Z fun a f=>q_p (hw:=wo f cC) 6 17 Z f (fun _=>AL (f.eval Z) (f.eval Z) A8) fun a f=> ?_
           obtain⟨cD,cE,bW⟩:=bind_some bW
           refine AW (hw:=wo f cC) 7 17 0 m bU T27 cE Z f Z Z fun cF a cG f=>Bg (hw:=wo f cC) 8 17 0 bU AO cG cE Z f Z fun cH a cI f=>Am (hw:=wo f cC) 9 17 Z f Z fun a f=>Am (hw:=wo f cC) 10 17 Z f Z fun a f=> ?_
           obtain⟨cJ,cK,bW⟩:=bind_some bW
           refine AW (hw:=wo f cC) 11 17 0 m bU T27 cK Z f Z Z fun cL a cM f=>Bg (hw:=wo f cC) 12 17 0 bU AO cM cK Z f Z fun cN a cO f=> ?_
           obtain⟨cP,cQ,bW⟩:=bind_some bW
           refine Cp (i:=13) 17 Z (by kernel_rfl) Z f (Bz f Z Z Z cC) Z Z Z Tryz.call76 (fun _ _ w cR m=>Wk.b m (rd1 cR (cI.2)) (rd1 cR (cO.2)) cQ) fun a f=>q_p (hw:=wo f cC) 14 17 Z f (fun _=>AL (f.eval Z) (f.eval Z) AA) fun a f=>q_p (hw:=wo f cC) 15 17 Z f (fun _=>Bs (f.eval Z)) fun a f=>q_p 16 17 Z f (fun _=>A3 (f.eval Z) cC (f.eval Z)) fun a f=> ?_
           obtain rfl:=sj bW
           exact cB _ (f.k Z)
          ·refine Ax 3 17 Z f cC fun a f=> ?_
           refine Ax 4 17 Z f cC fun a f=>Ax 5 17 Z f cC fun a f=>Ax 6 17 Z f cC fun a f=>Ax 7 17 Z f cC fun a f=>Ax 8 17 Z f cC fun a f=>Ax 9 17 Z f cC fun a f=>Ax 10 17 Z f cC fun a f=>Ax 11 17 Z f cC fun a f=>Ax 12 17 Z f cC fun a f=>Ax 13 17 Z f cC fun a f=>Ax 14 17 Z f cC fun a f=>Ax 15 17 Z f cC fun a f=>q_p 16 17 Z f (fun _=>A2 (f.eval Z) cC (f.eval Z)) fun a f=> ?_
           obtain rfl:=sj bW
           exact cB _ (f.k Z)
theorem Wk.r {W w:World}{G:GH}{H:List Itm}{v0:Value}{it0:Itm}{x0:(List (Value×List Int))}{x1:Int}{x2:Int}{x3:Int}(m:Mem W G w (it0::H))(o0:Ow (RTg (RI .i64)) 31 G it0 v0 x0){y:((List (Value×List Int)))}(hd:D.r x0 x1 x2 x3=some y):
  Calls Tryz.prog 108 #[v0,(.int .i64 x1),(.int .i64 x2),(.int .i64 x3),(.func (.func 76) #[] #[])] w (Res W G H (fun G' Ho _=>∃i0:Itm,Ho=[i0]∧Ow (RTg (RI .i64)) 31 G' i0 v0 y)):=by
 exact Wk.L BW m o0 hd
theorem Wk.T {W w:World}{G:GH}{H:List Itm}{v0:Value}{it0:Itm}{x0:(List (Value×List Int))}(m:Mem W G w (it0::H))(o0:Ow (RTg (RI .i64)) 31 G it0 v0 x0){y:((List (Value×List Int)))}(hd:D.T x0=some y):
  Calls Tryz.prog 75 #[v0,(.func (.func 76) #[] #[])] w (Res W G H (fun G' Ho _=>∃i0:Itm,Ho=[i0]∧Ow (RTg (RI .i64)) 31 G' i0 v0 y)):=by
 refine Aq (args:=[v0,(.func (.func 76) #[] #[])]) (N:=14) [] Tryz.func75 Z Z (Nat.le_of_ble_eq_true Z) Z fun a f=> ?_
 unfold D.T at hd
 refine Ac ?_
 refine Ab f Z fun a f=>Bw 0 m o0 Z Tryz.underlying27 f Z Z fun a f=>Ad f Z fun a f=>Aa (Ah ?_)
 refine Ab f Z fun a f=>Ab f Z fun a f=>Ab f Z fun a f=>l_o f (EB (f.eval Z) ⟨_,Tryz.underlying3⟩ Tryz.underlying95) fun a f=> ?_
 obtain⟨aa,ab,hd⟩:=bind_some hd
 refine AK f Z Tryz.call109 (Wk.u m ab) fun ac ad ae w af m ag a f=> ?_
 obtain⟨rfl,rfl⟩:=ag
 have o0:=Ow.mono (RTg.mono (RI.mono _)) af o0
 refine Ab f Z fun a f=> ?_
 obtain⟨ah,ai,hd⟩:=bind_some hd
 refine AK f Z Tryz.call108 (Wk.r m o0 ai) fun aj ak al w am m an a f=> ?_
 obtain⟨ao,rfl,ap⟩:=an
 refine Aa ?_
 obtain rfl:=sj hd
 exact⟨[],trivial,f.defers,_,[ao],(gt af am),m,_,Z,ap⟩
theorem Wk.V {W w:World}{G:GH}{H:List Itm}{v0:Value}{v1:Value}{x0:(List Int)}{x1:(List Int)}(hW:CW W)(m:Mem W G w (H))(h0:RSl (RI .u32) G v0 x0)(h1:RSl (RI .i64) G v1 x1){y:((List (List Int)))×((List (List Int)))}(hd:D.V x0 x1=some y):
  Calls Tryz.prog 38 #[v0,v1] w (Res W G H (fun G' Ho v=>∃r0:Value,∃i0:Itm,∃r2:Value,∃i2:Itm,Ho=[i0,i2]∧v=(.agg #[r0,r2])∧Ow2 (RI .i64) 31 2 G' i0 r0 y.1∧Ow2 (RI .i64) 31 2 G' i2 r2 y.2)):=by
 refine Aq (args:=[v0,v1]) (N:=104) [.cell 4 36] Tryz.func38 Z Z (Nat.le_of_ble_eq_true Z) Z fun a f=> ?_
 unfold D.V at hd
 refine Ac ?_
 refine Bp (cs:=[(.slice none 0 0),(.slice none 0 0)]) Tryz.zeroValue36 m f Z Z fun aa w a m f=>Aa (Ac ?_)
 refine Ab f Z fun a f=>Ab f Z fun a f=> ?_
 obtain⟨ab,ac,hd⟩:=bind_some hd
 refine AK f Z Tryz.call80 (Wk.J hW m h0 h1 ac) fun ad ae af w ag m ah a f=> ?_
 obtain⟨ai,aj,ak,al,rfl,rfl,am,an⟩:=ah
 have h0:=rd1 ag h0
 have h1:=rd1 ag h1
 refine Ab f Z fun a f=>l_o f (A9 (f.eval Z) Z) fun a f=>l_o f (A9 (f.eval Z) Z) fun a f=>Ad f Z fun a f=>Ad f Z fun a f=>Aa (Ac ?_)
 refine Ab f Z fun a f=>AT Tryz.underlying67 f Z Z h1 fun a f=> ?_
 obtain⟨ao,ap,hd⟩:=bind_some hd
 refine CU (R:=(RI .i64)) m T67 Z (by decide) Z f Z Z Z ap fun aq ar w a m au f=>Ad f Z fun a f=>Aa (Af (Ac ?_))
 refine Ab f Z fun a f=>AT Tryz.underlying67 f Z Z h1 fun a f=>Ab f Z fun a f=>Aa ?_
 obtain⟨av,aw,hd⟩:=bind_some hd
 refine AF (fun a w=>∃ax:List Int,ax=av∧∃(ay:GH) (az:Itm),GLe ae ay∧Fr a 104 [(1,v1),(4,(.pointer (some ⟨aa,0,none⟩))),(6,ak),(7,ar)]∧Mem W ay w (Itm.box aa 36 [(.slice none 0 0),(.slice none 0 0)]::al::az::H)∧Ow (RI .i64) 3 ay az ar ax) ?_ ?_
 ·refine Aj ?_
  have m:=m.front 2 rfl
  have m:=m.front 3 rfl
  have m:=m.eraseAt 3
  refine AC (fun aA a w=>∃aB:List Int,∃aC:Int,(aB,aC)=aA∧∃(aD:GH) (aE:Itm),GLe ae aD∧Fr a 104 [(1,v1),(4,(.pointer (some ⟨aa,0,none⟩))),(6,ak),(7,ar),(25,v1),(26,(.int .i64 (x1.length:Int))),(27,(.int .i64 aC))]∧Mem W aD w (Itm.box aa 36 [(.slice none 0 0),(.slice none 0 0)]::al::aE::H)∧Ow (RI .i64) 3 aD aE ar aB) aw ⟨_,_,Z,_,aq,gr,f.k Z,m,au⟩ ?_
  clear aw f m
  rintro aA aF aG aH a w ⟨aB,aC,rfl,aD,aE,aI,f,m,aJ⟩
  have h1:=rd1 aI h1
  have an:=od1 aI an
  refine Ac ?_
  refine Ai f Z Z AA fun a f=>Aa (Af ?_)
  rcases Ae aG with⟨aK,aG⟩|⟨aK,aG⟩
  ·refine Ak f Z aK ?_
   refine Al ?_
   refine Af (Aj (Ac ?_))
   refine Ab f Z fun a f=> ?_
   obtain⟨aL,aM,aG⟩:=bind_some aG
   refine AZ T67 f Z Z Z h1 aM fun aN aO a aP aQ f=> ?_
   subst aQ
   refine Au m Pl3 f Z Z aP fun a f=>Ad f Z fun a f=>Ad f Z fun a f=>Aa (Ah ?_)
   refine Ab f Z fun a f=>Ab f Z fun a f=>Ab f Z fun a f=> ?_
   obtain⟨aR,aS,aG⟩:=bind_some aG
   refine AV 2 m aJ Z T67 f Z Z Z aS fun aT a aU f=>AH 2 m aJ Z Tryz.sizeOf3 f Z Z aU aS Z Z Z fun aV w m aW=>Aa (Ah ?_)
   refine Ai f Z Z As fun a f=>Ab f Z fun a f=>Aa ?_
   obtain rfl:=sj aG
   exact⟨_,Z,_,_,Z,_,aV,aI,f.k Z,m,aW⟩
  ·refine Ag f Z aK ?_
   refine Aw Z ?_
   obtain rfl:=sj aG
   obtain rfl:=aH _ rfl
   exact⟨_,Z,_,aE,aI,f.k Z,m,aJ⟩
 ·rintro a w ⟨ax,rfl,ay,az,aX,f,m,aY⟩
  have h1:=rd1 aX h1
  have an:=od1 aX an
  refine Ac ?_
  have aZ:∀w,(Instr.build 36 #[]).run Tryz.prog w= .ok (.agg #[(.slice none 0 0),(.slice none 0 0)]) w:=by intro w;simp[Instr.build,Instr.fill,Ct,Cg,B3,B5,BQ,Ch]
  refine CL f Z Z aZ fun a f=>Bp (cs:=[(.slice none 0 0),(.slice none 0 0)]) Tryz.zeroValue36 m f Z Z fun a0 w a m f=>AG 0 0 (ds:=[(.slice none 0 0),(.slice none 0 0)]) m Tryz.sizeOf36 f Z Z Z (Av Z (Av Z AS)) Z (Nat.le_of_ble_eq_true Z) Z fun w m=>Aa (Af (Ac ?_))
  refine Ab f Z fun a f=>AT Tryz.underlying67 f Z Z h1 fun a f=>Ab f Z fun a f=>Aa ?_
  obtain⟨a1,m,a2⟩:=Ow2.nil (RI .i64) 31 2 m
  obtain⟨a3,m,a4⟩:=Ow2.nil (RI .i64) 31 2 m
  obtain⟨a5,a6,hd⟩:=bind_some hd
  refine AF (fun a w=>∃a7:List (List Int),∃a8:List (List Int),(a7,a8)=a5∧∃(a9:GH) (ba:Value) (bb:Itm) (bc:Value) (bd:Itm),GLe ay a9∧Fr a 104 [(4,(.pointer (some ⟨aa,0,none⟩))),(10,(.pointer (some ⟨a0,0,none⟩)))]∧Mem W a9 w (Itm.box aa 36 [(.slice none 0 0),(.slice none 0 0)]::Itm.box a0 36 [ba,bc]::bb::bd::H)∧Ow2 (RI .i64) 31 2 a9 bb ba a7∧Ow2 (RI .i64) 31 2 a9 bd bc a8) ?_ ?_
  ·refine Aj ?_
   have m:=m.front 1 rfl
   have m:=m.front 5 rfl
   have m:Mem W ay w (al::az::a1::a3::Itm.box a0 36 [(.slice none 0 0),(.slice none 0 0)]::Itm.box aa 36 [(.slice none 0 0),(.slice none 0 0)]::H):=m.front 5 rfl
   have m:=m.front 4 rfl
   have m:Mem W ay w (Itm.box aa 36 [(.slice none 0 0),(.slice none 0 0)]::Itm.box a0 36 [(.slice none 0 0),(.slice none 0 0)]::al::az::a1::a3::H):=m.front 5 rfl
   refine AC (fun be a w=>∃bf:Int,∃bg:List (List Int),∃bh:List (List Int),(bf,bg,bh)=be∧∃(bi:GH) (bj:Value) (bk:Itm) (bl:Value) (bm:Itm),GLe ay bi∧Fr a 104 [(1,v1),(4,(.pointer (some ⟨aa,0,none⟩))),(6,ak),(7,ar),(10,(.pointer (some ⟨a0,0,none⟩))),(38,v1),(39,(.int .i64 (x1.length:Int))),(40,(.int .i64 bf))]∧Mem W bi w (Itm.box aa 36 [(.slice none 0 0),(.slice none 0 0)]::Itm.box a0 36 [bj,bl]::al::az::bk::bm::H)∧Ow2 (RI .i64) 31 2 bi bk bj bg∧Ow2 (RI .i64) 31 2 bi bm bl bh) a6 ⟨_,_,_,Z,_,(.slice none 0 0),a1,(.slice none 0 0),a3,gr,f.k Z,m,a2,a4⟩ ?_
   clear a6 f m
   rintro be bn bo bp a w ⟨bf,bg,bh,rfl,bi,bj,bk,bl,bm,bq,f,m,br,bs⟩
   have h1:=rd1 bq h1
   have an:=od1 bq an
   have aY:=od1 bq aY
   refine Ac ?_
   refine Ai f Z Z AA fun a f=>Aa (Af ?_)
   rcases Ae bo with⟨bt,bo⟩|⟨bt,bo⟩
   ·refine Ak f Z bt ?_
    refine Al ?_
    refine Af (Aj (Ac ?_))
    refine Ab f Z fun a f=> ?_
    obtain⟨bu,bv,bo⟩:=bind_some bo
    refine AZ T67 f Z Z Z h1 bv fun bw bx a bz bA f=> ?_
    subst bA
    refine Au m Pl3 f Z Z bz fun a f=>Ad f Z fun a f=>Ad f Z fun a f=>Aa (Af ?_)
    refine AY 11 AI (by kernel_rfl) m ?_
    refine BT 0 11 Tryz.underlying36 Z Tryz.sizeOf27 Z f Z fun a f=>BD 1 11 1 AX Z Z Z f Z fun a f=>Am 2 11 Z f Z fun a f=>Am 3 11 Z f Z fun a f=> ?_
    obtain⟨bB,bC,bo⟩:=bind_some bo
    refine AW 4 11 2 m an T61 bC Z f Z Z fun bD a bE f=>Bg 5 11 2 an DB bE bC Z f Z fun bF a bG f=> ?_
    subst bG
    refine Am 6 11 Z f Z fun a f=> ?_
    obtain⟨bH,bI,bo⟩:=bind_some bo
    refine Ca (i:=7) 11 Z (by kernel_rfl) Z f Z Z Z Tryz.call56 (fun _ _ w bJ m=>Wk.d m bI) fun a f=>q_p 8 11 Z f (fun _=>AL (f.eval Z) (f.eval Z) b_or) fun a f=>Br (i:=9) Z (by kernel_rfl) Z fun bK w bL m bM bM=> ?_
    have h1:=rd1 bL h1
    have an:=od1 bL an
    have aY:=od1 bL aY
    have br:=od2 bL br
    have bs:=od2 bL bs
    obtain⟨bN,bO,bo⟩:=bind_some bo
    refine AK f Z Tryz.call57 (Wk.M hW m bO) fun bP bQ bR w bS m bT a f=> ?_
    obtain⟨bU,bV,rfl,rfl,bW⟩:=bT
    have h1:=rd1 bS h1
    have an:=od1 bS an
    have aY:=od1 bS aY
    have br:=od2 bS br
    have bs:=od2 bS bs
    refine Aa ?_
    refine bM bQ [bV] _ _ bS m ?_
    refine Br (i:=10) Z (by kernel_rfl) Z fun bX w bY m bZ bZ=> ?_
    have h1:=rd1 bY h1
    have bW:=od1 bY bW
    have an:=od1 bY an
    have aY:=od1 bY aY
    have br:=od2 bY br
    have bs:=od2 bY bs
    refine A7 (R:=RawS) (xs:=[bU]) RawS.one m T27 f Z Z Z (by decide) (All2.cons ⟨Z,Ow.one1 0 m bW Z,Ow.cells 0 m bW Z⟩ (All2.nil _)) fun b0 b1 w a m b2 f=>Aa ?_
    refine bZ bX [b0,bV] _ _ gr m ?_
    refine AU fun b3 w b4 m=> ?_
    have h1:=rd1 b4 h1
    have b2:=Ow.mono RawS.mono b4 b2
    have bW:=od1 b4 bW
    have an:=od1 b4 an
    have aY:=od1 b4 aY
    have br:=od2 b4 br
    have bs:=od2 b4 bs
    have m:=m.front 1 rfl
    have m:Mem W b3 w (bk::bV::b0::Itm.box aa 36 [(.slice none 0 0),(.slice none 0 0)]::Itm.box a0 36 [bj,bl]::al::az::bm::H):=m.front 6 rfl
    obtain⟨b5,b6,bo⟩:=bind_some bo
    refine Ek m br bW b2 T27 Z (by decide) f Z Z Z b6 fun b7 b8 w a m b9 f=>Bk Tryz.underlying36 Z Tryz.sizeOf27 f Z fun a f=>AG 2 0 (ds:=[b8]) m Tryz.sizeOf27 f Z Z (Ow2.cells 0 m b9 Z) (Av (Ow2.one1 0 m b9 Z) AS) Z (Nat.le_of_ble_eq_true Z) Z fun w m=>Aa (Af (Ac ?_))
    refine Ab f Z fun a f=>Ab f Z fun a f=>AT Tryz.underlying67 f Z Z h1 fun a f=>Ai f Z Z A8 fun a f=>Ai f Z Z BH fun a f=>Aa ?_
    rcases Ae bo with⟨ca,bo⟩|⟨ca,bo⟩
    ·refine Ak f Z ca ?_
     refine Aw Z ?_
     have m:=m.front 5 rfl
     have m:=m.front 1 rfl
     have m:Mem W b3 w (Itm.box a0 36 [b8,bl]::b7::bm::Itm.box aa 36 [(.slice none 0 0),(.slice none 0 0)]::al::az::H):=m.front 3 rfl
     have m:=m.front 3 rfl
     have m:=m.eraseAt 5
     have m:Mem W b3 w (Itm.box aa 36 [(.slice none 0 0),(.slice none 0 0)]::Itm.box a0 36 [b8,bl]::b7::bm::H):=m.eraseAt 4
     obtain rfl:=sj bo
     obtain rfl:=bp _ rfl
     exact⟨_,_,Z,_,b8,b7,bl,bm,(gt bq (gt bL (gt bS (gt bY b4)))),f.k Z,m,b9,bs⟩
    ·refine Ag f Z ca ?_
     refine Al ?_
     refine Ac ?_
     refine Ab f Z fun a f=>Ai f Z Z As fun a f=>Ad f Z fun a f=>Aa (Af (Ac ?_))
     refine Ab f Z fun a f=>Ab f Z fun a f=> ?_
     obtain⟨cb,cc,bo⟩:=bind_some bo
     refine AV 3 m an Z T61 f Z Z Z cc fun cd a ce f=>Bt 3 m an Z DB f Z Z ce cc fun cf a cg f=> ?_
     subst cg
     obtain⟨ch,ci,bo⟩:=bind_some bo
     refine AK f Z Tryz.call72 (Wk.i hW m ci) fun cj ck cl w cm m cn a f=> ?_
     obtain⟨co,cp,rfl,rfl,cq⟩:=cn
     have h1:=rd1 cm h1
     have b9:=od2 cm b9
     have an:=od1 cm an
     have aY:=od1 cm aY
     have bs:=od2 cm bs
     refine Bw 0 m cq Z Tryz.underlying67 f Z Z fun a f=>Ab f Z fun a f=>Aa ?_
     obtain⟨cr,ct,bo⟩:=bind_some bo
     refine AF (fun a w=>∃cu:Int,cu=cr∧∃(cv:GH),GLe ck cv∧Fr a 104 [(1,v1),(4,(.pointer (some ⟨aa,0,none⟩))),(6,ak),(7,ar),(10,(.pointer (some ⟨a0,0,none⟩))),(11,(.int .i64 bf)),(13,(.int .i64 cu)),(38,v1),(39,(.int .i64 (x1.length:Int))),(40,(.int .i64 bf))]∧Mem W cv w (Itm.box aa 36 [(.slice none 0 0),(.slice none 0 0)]::Itm.box a0 36 [b8,bl]::al::az::b7::bm::H)) ?_ ?_
     ·refine Aj ?_
      have m:=m.front 5 rfl
      have m:=m.front 5 rfl
      have m:Mem W ck w (Itm.box a0 36 [b8,bl]::al::az::cp::b7::Itm.box aa 36 [(.slice none 0 0),(.slice none 0 0)]::bm::H):=m.front 5 rfl
      have m:Mem W ck w (Itm.box aa 36 [(.slice none 0 0),(.slice none 0 0)]::Itm.box a0 36 [b8,bl]::al::az::cp::b7::bm::H):=m.front 5 rfl
      refine AC (fun cw a w=>∃cx:Int,∃cy:Int,(cx,cy)=cw∧∃(cz:GH),GLe ck cz∧Fr a 104 [(1,v1),(4,(.pointer (some ⟨aa,0,none⟩))),(6,ak),(7,ar),(10,(.pointer (some ⟨a0,0,none⟩))),(11,(.int .i64 bf)),(13,(.int .i64 cx)),(38,v1),(39,(.int .i64 (x1.length:Int))),(40,(.int .i64 bf)),(69,co),(70,(.int .i64 (ch.length:Int))),(71,(.int .i64 cy))]∧Mem W cz w (Itm.box aa 36 [(.slice none 0 0),(.slice none 0 0)]::Itm.box a0 36 [b8,bl]::al::az::cp::b7::bm::H)) ct ⟨_,_,Z,_,gr,f.k Z,m⟩ ?_
      clear ct f m
      rintro cw cA cB cC a w ⟨cx,cy,rfl,cz,cD,f,m⟩
      have h1:=rd1 cD h1
      have an:=od1 cD an
      have aY:=od1 cD aY
      have cq:=od1 cD cq
      have b9:=od2 cD b9
      have bs:=od2 cD bs
      refine Ac ?_
      refine Ai f Z Z AA fun a f=>Aa (Af ?_)
      rcases Ae cB with⟨cE,cB⟩|⟨cE,cB⟩
      ·refine Ak f Z cE ?_
       refine Al ?_
       refine Af (Aj (Ac ?_))
       refine Ab f Z fun a f=> ?_
       obtain⟨cF,cG,cB⟩:=bind_some cB
       refine AV 4 m cq Z T67 f Z Z Z cG fun cH a cI f=>Bt 4 m cq Z Pl3 f Z Z cI cG fun cJ a cK f=> ?_
       subst cK
       refine Ad f Z fun a f=>Ad f Z fun a f=>Aa (Ac ?_)
       refine Ab f Z fun a f=>Ai f Z Z BH fun a f=>Ab f Z fun a f=> ?_
       obtain⟨cL,cM,cB⟩:=bind_some cB
       refine BA 7 (fun a w=>∃cN,GLe cz cN∧Mem W cN w (Itm.box aa 36 [(.slice none 0 0),(.slice none 0 0)]::Itm.box a0 36 [b8,bl]::al::az::cp::b7::bm::H)∧Fr a 104 [(1,v1),(4,(.pointer (some ⟨aa,0,none⟩))),(6,ak),(7,ar),(10,(.pointer (some ⟨a0,0,none⟩))),(11,(.int .i64 bf)),(13,(.int .i64 cx)),(14,(.int .i64 cy)),(15,(.int .i64 cF)),(38,v1),(39,(.int .i64 (x1.length:Int))),(40,(.int .i64 bf)),(69,co),(70,(.int .i64 (ch.length:Int))),(71,(.int .i64 cy)),(76,(.int .i64 cy)),(77,(.bool (cy==0))),(78,(.bool (cy==0))),(85,(.bool cL))]) ?_ ?_
       ·rcases Ae cM with⟨cO,cM⟩|⟨cO,cM⟩
        ·refine AB f cO fun a f=> ?_
         refine AB f cO fun a f=>AB f cO fun a f=>AB f cO fun a f=>AB f cO fun a f=>AB f cO fun a f=>l_o f (A3 (f.eval Z) cO (f.eval Z)) fun a f=> ?_
         obtain rfl:=sj cM
         exact⟨_,gr,m,f.k Z⟩
        ·refine Az f cO ?_
         refine Ab f Z fun a f=>Az f cO ?_
         refine Ab f Z fun a f=>Az f cO ?_
         obtain⟨cP,cQ,cM⟩:=bind_some cM
         refine AV 3 m aY Z T67 f Z Z Z cQ fun cR a cS f=>Az f cO ?_
         refine Bt 3 m aY Z Pl3 f Z Z cS cQ fun cT a cU f=> ?_
         subst cU
         refine Az f cO ?_
         refine Ab f Z fun a f=>Az f cO ?_
         refine Ai f Z Z AA fun a f=>l_o f (A2 (f.eval Z) cO (f.eval Z)) fun a f=> ?_
         obtain rfl:=sj cM
         exact⟨_,gr,m,f.k Z⟩
       ·rintro a w ⟨cN,cV,m,f⟩
        have h1:=rd1 cV h1
        have an:=od1 cV an
        have aY:=od1 cV aY
        have cq:=od1 cV cq
        have b9:=od2 cV b9
        have bs:=od2 cV bs
        refine Aa ?_
        rcases Ae cB with⟨cW,cB⟩|⟨cW,cB⟩
        ·refine Ak f Z cW ?_
         refine Ah ?_
         refine Ab f Z fun a f=>Ab f Z fun a f=> ?_
         obtain⟨cX,cY,cB⟩:=bind_some cB
         refine AV 3 m aY Z T67 f Z Z Z cY fun cZ a c0 f=>Bt 3 m aY Z Pl3 f Z Z c0 cY fun c1 a c2 f=> ?_
         subst c2
         refine Ad f Z fun a f=>Aa (Ah ?_)
         refine Ai f Z Z As fun a f=>Ab f Z fun a f=>Aa ?_
         obtain rfl:=sj cB
         exact⟨_,Z,_,_,Z,_,(gt cD cV),f.k Z,m⟩
        ·refine Ag f Z cW ?_
         refine Al ?_
         refine Ah ?_
         refine Ai f Z Z As fun a f=>Ab f Z fun a f=>Aa ?_
         obtain rfl:=sj cB
         exact⟨_,Z,_,_,Z,_,(gt cD cV),f.k Z,m⟩
      ·refine Ag f Z cE ?_
       refine Aw Z ?_
       have m:=m.front 6 rfl
       have m:=m.front 6 rfl
       have m:Mem W cz w (az::b7::bm::Itm.box aa 36 [(.slice none 0 0),(.slice none 0 0)]::Itm.box a0 36 [b8,bl]::al::cp::H):=m.front 5 rfl
       have m:=m.front 5 rfl
       have m:=m.front 5 rfl
       have m:Mem W cz w (Itm.box aa 36 [(.slice none 0 0),(.slice none 0 0)]::Itm.box a0 36 [b8,bl]::al::az::b7::bm::cp::H):=m.front 5 rfl
       have m:Mem W cz w (Itm.box aa 36 [(.slice none 0 0),(.slice none 0 0)]::Itm.box a0 36 [b8,bl]::al::az::b7::bm::H):=m.eraseAt 6
       obtain rfl:=sj cB
       obtain rfl:=cC _ rfl
       exact⟨_,Z,_,cD,f.k Z,m⟩
     ·rintro a w ⟨cu,rfl,cv,c3,f,m⟩
      have h1:=rd1 c3 h1
      have an:=od1 c3 an
      have aY:=od1 c3 aY
      have b9:=od2 c3 b9
      have bs:=od2 c3 bs
      refine AY 6 AI (by kernel_rfl) m ?_
      refine BT 0 6 Tryz.underlying36 Z Tryz.sizeOf27 Z f Z fun a f=>BD 1 6 1 AX Z Z Z f Z fun a f=>Am 2 6 Z f Z fun a f=>Am 3 6 Z f Z fun a f=>Br (i:=4) Z (by kernel_rfl) Z fun c4 w c5 m c6 c6=> ?_
      have h1:=rd1 c5 h1
      have an:=od1 c5 an
      have aY:=od1 c5 aY
      have b9:=od2 c5 b9
      have bs:=od2 c5 bs
      obtain⟨c7,c8,bo⟩:=bind_some bo
      refine AK f Z Tryz.call81 (Wk.Y m c8) fun c9 da db w dc m dd a f=> ?_
      obtain⟨de,df,rfl,rfl,dg⟩:=dd
      have h1:=rd1 dc h1
      have an:=od1 dc an
      have aY:=od1 dc aY
      have b9:=od2 dc b9
      have bs:=od2 dc bs
      refine Aa ?_
      refine c6 da [df] _ _ dc m ?_
      refine Br (i:=5) Z (by kernel_rfl) Z fun dh w di m dj dj=> ?_
      have h1:=rd1 di h1
      have dg:=od1 di dg
      have an:=od1 di an
      have aY:=od1 di aY
      have b9:=od2 di b9
      have bs:=od2 di bs
      refine A7 (R:=RawS) (xs:=[de]) RawS.one m T27 f Z Z Z (by decide) (All2.cons ⟨Z,Ow.one1 0 m dg Z,Ow.cells 0 m dg Z⟩ (All2.nil _)) fun dk dl w a m dm f=>Aa ?_
      refine dj dh [dk,df] _ _ gr m ?_
      refine AU fun dn w dp m=> ?_
      have h1:=rd1 dp h1
      have dm:=Ow.mono RawS.mono dp dm
      have dg:=od1 dp dg
      have an:=od1 dp an
      have aY:=od1 dp aY
      have b9:=od2 dp b9
      have bs:=od2 dp bs
      have m:=m.front 1 rfl
      have m:Mem W dn w (bm::df::dk::Itm.box aa 36 [(.slice none 0 0),(.slice none 0 0)]::Itm.box a0 36 [b8,bl]::al::az::b7::H):=m.front 7 rfl
      obtain⟨dq,dr,bo⟩:=bind_some bo
      refine Ek m bs dg dm T27 Z (by decide) f Z Z Z dr fun dt du w a m dv f=>Bk Tryz.underlying36 Z Tryz.sizeOf27 f Z fun a f=>AG 2 1 (ds:=[du]) m Tryz.sizeOf27 f Z Z (Ow2.cells 0 m dv Z) (Av (Ow2.one1 0 m dv Z) AS) Z (Nat.le_of_ble_eq_true Z) Z fun w m=>Aa (Ah ?_)
      refine Ai f Z Z As fun a f=>Ab f Z fun a f=>Aa ?_
      have m:=m.front 5 rfl
      have m:=m.front 5 rfl
      have m:Mem W dn w (al::az::b7::dt::Itm.box aa 36 [(.slice none 0 0),(.slice none 0 0)]::Itm.box a0 36 [b8,du]::H):=m.front 5 rfl
      have m:=m.front 5 rfl
      have m:Mem W dn w (Itm.box aa 36 [(.slice none 0 0),(.slice none 0 0)]::Itm.box a0 36 [b8,du]::al::az::b7::dt::H):=m.front 5 rfl
      obtain rfl:=sj bo
      exact⟨_,Z,_,_,_,Z,_,b8,b7,du,dt,(gt bq (gt bL (gt bS (gt bY (gt b4 (gt cm (gt c3 (gt c5 (gt dc (gt di dp)))))))))),f.k Z,m,b9,dv⟩
   ·refine Ag f Z bt ?_
    refine Aw Z ?_
    have m:=m.front 5 rfl
    have m:=m.front 5 rfl
    have m:Mem W bi w (Itm.box a0 36 [bj,bl]::bk::bm::Itm.box aa 36 [(.slice none 0 0),(.slice none 0 0)]::al::az::H):=m.front 3 rfl
    have m:=m.front 3 rfl
    have m:=m.eraseAt 5
    have m:Mem W bi w (Itm.box aa 36 [(.slice none 0 0),(.slice none 0 0)]::Itm.box a0 36 [bj,bl]::bk::bm::H):=m.eraseAt 4
    obtain rfl:=sj bo
    obtain rfl:=bp _ rfl
    exact⟨_,_,Z,_,bj,bk,bl,bm,bq,f.k Z,m,br,bs⟩
  ·rintro a w ⟨a7,a8,rfl,a9,ba,bb,bc,bd,dw,f,m,dx,dy⟩
   refine Ac ?_
   refine Bk Tryz.underlying36 Z Tryz.sizeOf27 f Z fun a f=>Ay 1 1 m AX f Z Z Z Z fun a f=> ?_
   have m:Mem W a9 w (bd::Itm.box aa 36 [(.slice none 0 0),(.slice none 0 0)]::Itm.box a0 36 [ba,bc]::bb::H):=m.front 3 rfl
   obtain⟨dz,dA,hd⟩:=bind_some hd
   refine AK f Z Tryz.call75 (Ow2.sortCall (RI.free _) dy m (fun Z hZ=>(Bn dA hZ).imp (fun zs h=>⟨h.2.1,h.2.2,fun _ _ m o=>Wk.T m o h.1⟩))) fun dB dC dD w dE m dF a f=> ?_
   obtain⟨dG,rfl,dH⟩:=dF
   have dx:=od2 dE dx
   refine Aa (Ac ?_)
   refine AE 2 0 (ds:=[ba,bc]) m BG f Z Z Z Z Z fun a f=>AG 1 0 (ds:=[ba,bc]) m Tryz.sizeOf36 f Z Z Z (Av (Ow2.one1 3 m dx Z) (Av (Ow2.one1 0 m dH Z) AS)) Z (Nat.le_of_ble_eq_true Z) Z fun w m=>Aa ?_
   refine Ao ?_
   have dI:=Ci (P:=Tryz.prog) 1 m BG f (s:=4) rfl rfl rfl
   have m:=m.front 3 rfl
   have m:=m.eraseAt 3
   have m:=m.eraseAt 2
   obtain rfl:=sj hd
   exact⟨[(.agg #[ba,bc])],⟨dI,trivial⟩,f.defers,_,[bb,dG],(gt ag (gt aX (gt dw dE))),m,_,_,_,_,Z,Z,dx,dH⟩
theorem Wk.W0 {W w:World}{G:GH}{H:List Itm}{v0:Value}{x0:(List (List Int))}(m:Mem W G w (H))(h0:RSl (RSl (RI .i64)) G v0 x0){y:((List Int))}(hd:D.W0 x0=some y):
  Calls Tryz.prog 73 #[v0] w (Res W G H (fun G' Ho v=>∃r0:Value,∃i0:Itm,Ho=[i0]∧r0=v∧Ow (RI .u32) 65 G' i0 r0 y)):=by
 refine Aq (args:=[v0]) (N:=20) [.tmp 2] Tryz.func73 Z Z (Nat.le_of_ble_eq_true Z) Z fun a f=> ?_
 unfold D.W0 at hd
 refine Ac ?_
 refine Ad f Z fun a f=>Aa (Ac ?_)
 refine A7 (R:=(RI .u32)) (xs:=([]:List Int)) (RI.one _) m T60 f Z Z Z (by decide) (All2.nil _) fun aa ab w a m ac f=>Ad f Z fun a f=>Aa (Af (Ac ?_))
 refine Ab f Z fun a f=>AT Tryz.underlying27 f Z Z h0 fun a f=>Ab f Z fun a f=>Aa ?_
 obtain⟨ad,ae,hd⟩:=bind_some hd
 refine AF (fun a w=>∃af:List Int,af=ad∧∃(ag:GH) (ah:Value) (ai:Itm),GLe G ag∧Fr a 20 [(3,ah)]∧Mem W ag w (ai::H)∧Ow (RI .u32) 65 ag ai ah af) ?_ ?_
 ·refine Aj ?_
  refine AC (fun aj a w=>∃ak:List Int,∃al:Int,(ak,al)=aj∧∃(am:GH) (an:Value) (ao:Itm),GLe G am∧Fr a 20 [(3,an),(7,v0),(8,(.int .i64 (x0.length:Int))),(9,(.int .i64 al))]∧Mem W am w (ao::H)∧Ow (RI .u32) 65 am ao an ak) ae ⟨_,_,Z,_,ab,aa,gr,f.k Z,m,ac⟩ ?_
  clear ae f m
  rintro aj ap aq ar a w ⟨ak,al,rfl,am,an,ao,au,f,m,av⟩
  have h0:=rd2 au h0
  refine Ac ?_
  refine Ai f Z Z AA fun a f=>Aa (Af ?_)
  rcases Ae aq with⟨aw,aq⟩|⟨aw,aq⟩
  ·refine Ak f Z aw ?_
   refine Al ?_
   refine Af (Aj (Ac ?_))
   obtain⟨ax,ay,aq⟩:=bind_some aq
   refine AZ T27 f Z Z Z h0 ay fun az aA a aB aC f=>Au m AO f Z Z aB fun a f=>Ad f Z fun a f=>Aa (Ah ?_)
   refine Ab f Z fun a f=>Ab f Z fun a f=> ?_
   obtain⟨aD,aE,aq⟩:=bind_some aq
   refine Bc f Z Tryz.call70 (Wk.W m aC aE) fun aF w aG m a f=> ?_
   have aC:=rd1 aG aC
   have h0:=rd2 aG h0
   have av:=od1 aG av
   refine A7 (R:=(RI .u32)) (xs:=([aD]:List Int)) (RI.one _) m T60 f Z Z Z (by decide) (All2.cons Z (All2.nil _)) fun aH aI w a m aJ f=> ?_
   obtain⟨aK,aL,aq⟩:=bind_some aq
   refine Bh (RI.one _) 1 m av Z T60 Z (by decide) f Z Z Z (Ow.src (j:=0) aJ m Z) aL fun aM aN w a m aO f=>Ad f Z fun a f=>Aa (Ah ?_)
   refine Ai f Z Z As fun a f=>Ab f Z fun a f=>Aa ?_
   have m:=m.front 1 rfl
   have m:=m.eraseAt 1
   obtain rfl:=sj aq
   exact⟨_,Z,_,_,Z,_,aN,aM,(gt au aG),f.k Z,m,aO⟩
  ·refine Ag f Z aw ?_
   refine Aw Z ?_
   obtain rfl:=sj aq
   obtain rfl:=ar _ rfl
   exact⟨_,Z,_,an,ao,au,f.k Z,m,av⟩
 ·rintro a w ⟨af,rfl,ag,ah,ai,aP,f,m,aQ⟩
  refine Ac ?_
  refine Ab f Z fun a f=>Ad f Z fun a f=>Aa ?_
  refine Ao ?_
  obtain rfl:=sj hd
  exact⟨[ah],⟨f.get _ _ Z,trivial⟩,f.defers,_,[ai],aP,m,_,_,Z,Z,aQ⟩
theorem Wk.O {W w:World}{G:GH}{H:List Itm}{b1:Nat}{b2:Nat}{x0:Int}{x1_0:Int}{x2_0:Int}(m:Mem W G w (Itm.box b1 3 [(.int .i64 x1_0)]::Itm.box b2 3 [(.int .i64 x2_0)]::H)){y:Int}(hd:D.O x0 x1_0 x2_0=some y):
  Calls Tryz.prog 111 #[(.int .i64 x0),(.pointer (some ⟨b1,0,none⟩)),(.pointer (some ⟨b2,0,none⟩))] w (Res W G H (fun _ Ho v=>Ho=[Itm.box b1 3 [(.int .i64 x1_0)],Itm.box b2 3 [(.int .i64 x2_0)]]∧v=(.int .i64 y))):=by
 refine Aq (args:=[(.int .i64 x0),(.pointer (some ⟨b1,0,none⟩)),(.pointer (some ⟨b2,0,none⟩))]) (N:=15) [.tmp 4] Tryz.func111 Z Z (Nat.le_of_ble_eq_true Z) Z fun a f=> ?_
 unfold D.O at hd
 refine Ac ?_
 refine Ad f Z fun a f=>Aa (Af (Ac ?_))
 refine Ab f Z fun a f=>Ay 0 0 m Pl3 f Z Z Z Z fun a f=>Ai f Z Z BH fun a f=>Aa ?_
 rcases Ae hd with⟨aa,hd⟩|⟨aa,hd⟩
 ·refine Ak f Z aa ?_
  refine Ah ?_
  refine Ay 1 0 m Pl3 f Z Z Z Z fun a f=>Ad f Z fun a f=>Aa (Af (Ac ?_))
  refine Ab f Z fun a f=>Ay 0 0 m Pl3 f Z Z Z Z fun a f=>Ai f Z Z Cr fun a f=>Aa ?_
  rcases Ae hd with⟨ab,hd⟩|⟨ab,hd⟩
  ·refine Ak f Z ab ?_
   refine Ah ?_
   refine Ab f Z fun a f=>Ai f Z Z A8 fun a f=>Ad f Z fun a f=>Aa (Ac ?_)
   refine Ab f Z fun a f=>Ad f Z fun a f=>Aa ?_
   refine Ao ?_
   obtain rfl:=sj hd
   exact⟨[(.int .i64 (IntKind.i64.wrap (x2_0-1)))],⟨f.get _ _ Z,trivial⟩,f.defers,_,[Itm.box b1 3 [(.int .i64 x1_0)],Itm.box b2 3 [(.int .i64 x2_0)]],gr,m,Z,Z⟩
  ·refine Ag f Z ab ?_
   refine Al ?_
   refine Ac ?_
   refine Ab f Z fun a f=>Ad f Z fun a f=>Aa ?_
   refine Ao ?_
   obtain rfl:=sj hd
   exact⟨[(.int .i64 x2_0)],⟨f.get _ _ Z,trivial⟩,f.defers,_,[Itm.box b1 3 [(.int .i64 x1_0)],Itm.box b2 3 [(.int .i64 x2_0)]],gr,m,Z,Z⟩
 ·refine Ag f Z aa ?_
  refine Al ?_
  refine Af (Ac ?_)
  refine Ab f Z fun a f=>Ay 0 0 m Pl3 f Z Z Z Z fun a f=>Ai f Z Z Cr fun a f=>Aa ?_
  rcases Ae hd with⟨ac,hd⟩|⟨ac,hd⟩
  ·refine Ak f Z ac ?_
   refine Ah ?_
   refine Ab f Z fun a f=>Ai f Z Z A8 fun a f=>Ad f Z fun a f=>Aa (Ac ?_)
   refine Ab f Z fun a f=>Ad f Z fun a f=>Aa ?_
   refine Ao ?_
   obtain rfl:=sj hd
   exact⟨[(.int .i64 (IntKind.i64.wrap (x0-1)))],⟨f.get _ _ Z,trivial⟩,f.defers,_,[Itm.box b1 3 [(.int .i64 x1_0)],Itm.box b2 3 [(.int .i64 x2_0)]],gr,m,Z,Z⟩
  ·refine Ag f Z ac ?_
   refine Al ?_
   refine Ac ?_
   refine Ab f Z fun a f=>Ad f Z fun a f=>Aa ?_
   refine Ao ?_
   obtain rfl:=sj hd
   exact⟨[(.int .i64 x0)],⟨f.get _ _ Z,trivial⟩,f.defers,_,[Itm.box b1 3 [(.int .i64 x1_0)],Itm.box b2 3 [(.int .i64 x2_0)]],gr,m,Z,Z⟩
theorem Wk.g {W w:World}{G:GH}{H:List Itm}{v0:Value}{v1:Value}{x0:(List Int)}{x1:(List (List Int))}{x2:Int}{x3:Int}(m:Mem W G w (H))(h0:RSl (RI .u32) G v0 x0)(h1:RSl (RSl (RI .i64)) G v1 x1){y:((List Int))×((List (List Int)))}(hd:D.g x0 x1 x2 x3=some y):
  Calls Tryz.prog 77 #[v0,v1,(.int .i64 x2),(.int .i64 x3)] w (Res W G H (fun G' Ho v=>∃r0:Value,∃i0:Itm,∃r2:Value,∃i2:Itm,Ho=[i0,i2]∧v= .tuple #[r0,r2]∧Ow (RI .u32) 65 G' i0 r0 y.1∧Ow (RSl (RI .i64)) 31 G' i2 r2 y.2)):=by
 refine Aq (args:=[v0,v1,(.int .i64 x2),(.int .i64 x3)]) (N:=53) [.tmp 8,.tmp 9] Tryz.func77 Z Z (Nat.le_of_ble_eq_true Z) Z fun a f=> ?_
 unfold D.g at hd
 refine Ac ?_
 refine Bm (cs:=[(.int .i64 x2)]) m f Z Z Z fun aa w a m f=>Bm (cs:=[(.int .i64 x3)]) m f Z Z Z fun ab w a m f=>Ad f Z fun a f=>Ad f Z fun a f=>Aa (Ac ?_)
 refine l_makeFunc f Z Z Z fun a f=>Ad f Z fun a f=>Aa (Ac ?_)
 refine A7 (R:=(RSl (RI .i64))) (xs:=([]:List (List Int))) (RSl.one _) m T27 f Z Z Z (by decide) (All2.nil _) fun ac ad w a m ae f=>Ad f Z fun a f=>Aa (Af (Ac ?_))
 refine Ab f Z fun a f=>AT Tryz.underlying27 f Z Z h1 fun a f=>Ab f Z fun a f=>Aa ?_
 obtain⟨af,ag,hd⟩:=bind_some hd
 refine AF (fun a w=>∃ah:List (List Int),ah=af∧∃(ai:GH) (aj:Value) (ak:Itm),GLe G ai∧Fr a 53 [(0,v0),(6,(.pointer (some ⟨aa,0,none⟩))),(11,aj)]∧Mem W ai w (Itm.box aa 3 [(.int .i64 x2)]::ak::H)∧Ow (RSl (RI .i64)) 31 ai ak aj ah) ?_ ?_
 ·refine Aj ?_
  have m:=m.front 1 rfl
  have m:=m.front 2 rfl
  refine AC (fun al a w=>∃am:List (List Int),∃an:Int,(am,an)=al∧∃(ao:GH) (ap:Value) (aq:Itm),GLe G ao∧Fr a 53 [(0,v0),(6,(.pointer (some ⟨aa,0,none⟩))),(10,(.func (.func 111) #[] #[(.pointer (some ⟨aa,0,none⟩)),(.pointer (some ⟨ab,0,none⟩))])),(11,ap),(18,v1),(19,(.int .i64 (x1.length:Int))),(20,(.int .i64 an))]∧Mem W ao w (Itm.box aa 3 [(.int .i64 x2)]::Itm.box ab 3 [(.int .i64 x3)]::aq::H)∧Ow (RSl (RI .i64)) 31 ao aq ap am) ag ⟨_,_,Z,_,ad,ac,gr,f.k Z,m,ae⟩ ?_
  clear ag f m
  rintro al ar au av a w ⟨am,an,rfl,ao,ap,aq,aw,f,m,ax⟩
  have h0:=rd1 aw h0
  have h1:=rd2 aw h1
  refine Ac ?_
  refine Ai f Z Z AA fun a f=>Aa (Af ?_)
  rcases Ae au with⟨ay,au⟩|⟨ay,au⟩
  ·refine Ak f Z ay ?_
   refine Al ?_
   refine Af (Aj (Ac ?_))
   obtain⟨az,aA,au⟩:=bind_some au
   refine AZ T27 f Z Z Z h1 aA fun aB aC a aD aE f=>Au m AO f Z Z aD fun a f=>Ad f Z fun a f=>Aa (Af ?_)
   refine AY 12 AI (by kernel_rfl) m ?_
   refine Am 0 12 Z f Z fun a f=>Am 1 12 Z f Z fun a f=> ?_
   obtain⟨aF,aG,au⟩:=bind_some au
   refine BF 2 12 T31 aE aG Z f Z Z fun aH aI a aJ aK f=> ?_
   subst aK
   refine BE 3 12 Pl2 aJ Z f Z fun a f=>Am 5 12 Z f Z fun a f=>Am 6 12 Z f Z fun a f=> ?_
   obtain⟨aL,aM,au⟩:=bind_some au
   refine BF 7 12 T31 aE aM Z f Z Z fun aN aO a aP aQ f=> ?_
   subst aQ
   refine BE 8 12 Pl2 aP Z f Z fun a f=>Br (i:=4) Z (by kernel_rfl) Z fun aR w aS m aT aT=> ?_
   have h0:=rd1 aS h0
   have aE:=rd1 aS aE
   have h1:=rd2 aS h1
   have aJ:=At.mono aS aJ
   have aP:=At.mono aS aP
   have ax:=Ow.mono (RSl.mono (RI.mono _)) aS ax
   obtain⟨aU,aV,au⟩:=bind_some au
   refine l_resv0 f Z Z Z Tryz.call111 (Wk.O m aV) fun aW aX aY w aZ m a0 a f=> ?_
   obtain⟨rfl,rfl⟩:=a0
   have h0:=rd1 aZ h0
   have aE:=rd1 aZ aE
   have h1:=rd2 aZ h1
   have aJ:=At.mono aZ aJ
   have aP:=At.mono aZ aP
   have ax:=Ow.mono (RSl.mono (RI.mono _)) aZ ax
   refine Aa ?_
   refine aT aX [] _ _ aZ m ?_
   refine Br (i:=9) Z (by kernel_rfl) Z fun a1 w a2 m a3 a3=> ?_
   have h0:=rd1 a2 h0
   have aE:=rd1 a2 aE
   have h1:=rd2 a2 h1
   have aJ:=At.mono a2 aJ
   have aP:=At.mono a2 aP
   have ax:=Ow.mono (RSl.mono (RI.mono _)) a2 ax
   obtain⟨a4,a5,au⟩:=bind_some au
   refine l_resv0 f Z Z Z Tryz.call111 (Wk.O m a5) fun a6 a7 a8 w a9 m ba a f=> ?_
   obtain⟨rfl,rfl⟩:=ba
   have h0:=rd1 a9 h0
   have aE:=rd1 a9 aE
   have h1:=rd2 a9 h1
   have aJ:=At.mono a9 aJ
   have aP:=At.mono a9 aP
   have ax:=Ow.mono (RSl.mono (RI.mono _)) a9 ax
   refine Aa ?_
   refine a3 a7 [] _ _ a9 m ?_
   refine q_p 10 12 Z f (fun _=>A5 (f.eval Z)) fun a f=>q_p 11 12 Z f (fun _=>A5 (f.eval Z)) fun a f=>AU fun bb w bc m=> ?_
   have h0:=rd1 bc h0
   have aE:=rd1 bc aE
   have h1:=rd2 bc h1
   have aJ:=At.mono bc aJ
   have aP:=At.mono bc aP
   have ax:=Ow.mono (RSl.mono (RI.mono _)) bc ax
   refine Aa (Ac ?_)
   refine Ab f Z fun a f=>Ab f Z fun a f=>Ai f Z Z Cs fun a f=>Aa ?_
   rcases Ae au with⟨bd,au⟩|⟨bd,au⟩
   ·refine Ak f Z bd ?_
    refine Ah ?_
    refine Ab f Z fun a f=>Ab f Z fun a f=>Ab f Z fun a f=> ?_
    obtain⟨be,bf,au⟩:=bind_some au
    refine AK f Z Tryz.call81 (Wk.Y m bf) fun bg bh bi w bj m bk a f=> ?_
    obtain⟨bl,bm,rfl,rfl,bn⟩:=bk
    have h0:=rd1 bj h0
    have aE:=rd1 bj aE
    have h1:=rd2 bj h1
    have ax:=Ow.mono (RSl.mono (RI.mono _)) bj ax
    obtain⟨bo,bp,m,bq⟩:=Ow.stamp (RI.mono _) bn m
    have h0:=rd1 bp h0
    have aE:=rd1 bp aE
    have h1:=rd2 bp h1
    have ax:=Ow.mono (RSl.mono (RI.mono _)) bp ax
    refine A7 (R:=(RSl (RI .i64))) (xs:=([be]:List (List Int))) (RSl.one _) m T27 f Z Z Z (by decide) (All2.cons bq (All2.nil _)) fun br bs w a m bt f=> ?_
    obtain⟨bu,bv,au⟩:=bind_some au
    refine Bh (RSl.one _) 3 m ax Z T27 Z (by decide) f Z Z Z (Ow.src (j:=0) bt m Z) bv fun bw bx w a m bz f=>Ad f Z fun a f=>Aa (Ah ?_)
    refine Ai f Z Z As fun a f=>Ab f Z fun a f=>Aa ?_
    have m:=m.front 3 rfl
    have m:=m.front 3 rfl
    have m:Mem W bo w (Itm.box aa 3 [(.int .i64 x2)]::Itm.box ab 3 [(.int .i64 x3)]::bw::br::H):=m.front 3 rfl
    have m:=m.eraseAt 3
    obtain rfl:=sj au
    exact⟨_,Z,_,_,Z,_,bx,bw,(gt aw (gt aS (gt aZ (gt a2 (gt a9 (gt bc (gt bj bp))))))),f.k Z,m,bz⟩
   ·refine Ag f Z bd ?_
    refine Al ?_
    refine Ah ?_
    refine Ai f Z Z As fun a f=>Ab f Z fun a f=>Aa ?_
    obtain rfl:=sj au
    exact⟨_,Z,_,_,Z,_,ap,aq,(gt aw (gt aS (gt aZ (gt a2 (gt a9 bc))))),f.k Z,m,ax⟩
  ·refine Ag f Z ay ?_
   refine Aw Z ?_
   have m:=m.front 2 rfl
   have m:=m.front 1 rfl
   have m:=m.eraseAt 2
   obtain rfl:=sj au
   obtain rfl:=av _ rfl
   exact⟨_,Z,_,ap,aq,aw,f.k Z,m,ax⟩
 ·rintro a w ⟨ah,rfl,ai,aj,ak,bA,f,m,bB⟩
  have h0:=rd1 bA h0
  refine Ac ?_
  refine Ab f Z fun a f=> ?_
  have m:=m.front 1 rfl
  obtain⟨bC,bD,hd⟩:=bind_some hd
  refine AK f Z Tryz.call75 (Ow.sortCall bB m (fun Z hZ=>(Bn bD hZ).imp (fun zs h=>⟨h.2.1,h.2.2,fun _ _ m o=>Wk.T m o h.1⟩))) fun bE bF bG w bH m bI a f=> ?_
  obtain⟨bJ,rfl,bK⟩:=bI
  have h0:=rd1 bH h0
  refine Aa (Af ?_)
  refine AY 8 AI (by kernel_rfl) m ?_
  refine Am 0 8 Z f Z fun a f=>BD 2 8 1 Pl3 Z Z Z f Z fun a f=>BD 3 8 1 Pl3 Z Z Z f Z fun a f=>q_p 4 8 Z f (fun _=>AL (f.eval Z) (f.eval Z) As) fun a f=>Am 6 8 Z f Z fun a f=>Br (i:=1) Z (by kernel_rfl) Z fun bL w bM m bN bN=> ?_
  have h0:=rd1 bM h0
  have bK:=Ow.mono (RSl.mono (RI.mono _)) bM bK
  obtain⟨bO,bP,hd⟩:=bind_some hd
  refine AK f Z Tryz.call113 (Wk.i1 m h0 bP) fun bQ bR bS w bT m bU a f=> ?_
  obtain⟨bV,bW,rfl,rfl,bX⟩:=bU
  have h0:=rd1 bT h0
  have bK:=Ow.mono (RSl.mono (RI.mono _)) bT bK
  refine Aa ?_
  refine bN bR [bW] _ _ bT m ?_
  refine Br (i:=5) Z (by kernel_rfl) Z fun bY w bZ m b0 b0=> ?_
  have h0:=rd1 bZ h0
  have bX:=od1 bZ bX
  have bK:=Ow.mono (RSl.mono (RI.mono _)) bZ bK
  obtain⟨b1,b2,hd⟩:=bind_some hd
  refine AK f Z Tryz.call112 (Wk.u1 m bX b2) fun b3 b4 b5 w b6 m b7 a f=> ?_
  obtain⟨b8,b9,rfl,rfl,ca⟩:=b7
  have h0:=rd1 b6 h0
  have bK:=Ow.mono (RSl.mono (RI.mono _)) b6 bK
  refine Aa ?_
  refine b0 b4 [b9] _ _ b6 m ?_
  refine q_p 7 8 Z f (fun _=>A5 (f.eval Z)) fun a f=>AU fun cb w cc m=> ?_
  have h0:=rd1 cc h0
  have ca:=od1 cc ca
  have bK:=Ow.mono (RSl.mono (RI.mono _)) cc bK
  refine Ad f Z fun a f=>Aa ?_
  refine Ao ?_
  have m:=m.eraseAt 2
  obtain rfl:=sj hd
  exact⟨[b8,aj],⟨f.get _ _ Z,f.get _ _ Z,trivial⟩,f.defers,_,[b9,bJ],(gt bA (gt bH (gt bM (gt bT (gt bZ (gt b6 cc)))))),m,_,_,_,_,Z,Z,ca,bK⟩
theorem Wk.u0 {W w:World}{G:GH}{H:List Itm}{v0:Value}{x0:(List Int)}(hW:CW W)(m:Mem W G w (H))(h0:RSl (RI .u32) G v0 x0){y:((List (List Int)))}(hd:D.u0 x0=some y):
  Calls Tryz.prog 78 #[v0] w (Res W G H (fun G' Ho v=>∃r0:Value,∃i0:Itm,Ho=[i0]∧r0=v∧Ow2 (RI .i64) 31 2 G' i0 r0 y)):=by
 refine Aq (args:=[v0]) (N:=20) [.tmp 2] Tryz.func78 Z Z (Nat.le_of_ble_eq_true Z) Z fun a f=> ?_
 unfold D.u0 at hd
 refine Ac ?_
 refine Ad f Z fun a f=>Aa (Ac ?_)
 refine A7 (R:=RawS) (xs:=[]) RawS.one m T27 f Z Z Z (by decide) (All2.nil _) fun aa ab w a m ac f=> ?_
 obtain⟨ad,m,ae⟩:=Ow2.of_empty (RI .i64) 2 m ac
 refine Ad f Z fun a f=>Aa (Af (Ac ?_))
 refine Ab f Z fun a f=>AT Tryz.underlying60 f Z Z h0 fun a f=>Ab f Z fun a f=>Aa ?_
 obtain⟨af,ag,hd⟩:=bind_some hd
 refine AF (fun a w=>∃ah:List (List Int),ah=af∧∃(ai:GH) (aj:Value) (ak:Itm),GLe G ai∧Fr a 20 [(3,aj)]∧Mem W ai w (ak::H)∧Ow2 (RI .i64) 31 2 ai ak aj ah) ?_ ?_
 ·refine Aj ?_
  refine AC (fun al a w=>∃am:List (List Int),∃an:Int,(am,an)=al∧∃(ao:GH) (ap:Value) (aq:Itm),GLe G ao∧Fr a 20 [(3,ap),(7,v0),(8,(.int .i64 (x0.length:Int))),(9,(.int .i64 an))]∧Mem W ao w (aq::H)∧Ow2 (RI .i64) 31 2 ao aq ap am) ag ⟨_,_,Z,_,ab,ad,gr,f.k Z,m,ae⟩ ?_
  clear ag f m
  rintro al ar au av a w ⟨am,an,rfl,ao,ap,aq,aw,f,m,ax⟩
  have h0:=rd1 aw h0
  refine Ac ?_
  refine Ai f Z Z AA fun a f=>Aa (Af ?_)
  rcases Ae au with⟨ay,au⟩|⟨ay,au⟩
  ·refine Ak f Z ay ?_
   refine Al ?_
   refine Af (Aj (Ac ?_))
   obtain⟨az,aA,au⟩:=bind_some au
   refine AZ T60 f Z Z Z h0 aA fun aB aC a aD aE f=> ?_
   subst aE
   refine Au m DB f Z Z aD fun a f=>Ad f Z fun a f=>Aa (Ah ?_)
   refine Ab f Z fun a f=>Ab f Z fun a f=> ?_
   obtain⟨aF,aG,au⟩:=bind_some au
   refine AK f Z Tryz.call57 (Wk.M hW m aG) fun aH aI aJ w aK m aL a f=> ?_
   obtain⟨aM,aN,rfl,rfl,aO⟩:=aL
   have h0:=rd1 aK h0
   have ax:=od2 aK ax
   refine A7 (R:=RawS) (xs:=[aM]) RawS.one m T27 f Z Z Z (by decide) (All2.cons ⟨Z,Ow.one1 0 m aO Z,Ow.cells 0 m aO Z⟩ (All2.nil _)) fun aP aQ w a m aR f=> ?_
   have m:=m.front 1 rfl
   have m:=m.front 2 rfl
   obtain⟨aS,aT,au⟩:=bind_some au
   refine Ek m ax aO aR T27 Z (by decide) f Z Z Z aT fun aU aV w a m aW f=>Ad f Z fun a f=>Aa (Ah ?_)
   refine Ai f Z Z As fun a f=>Ab f Z fun a f=>Aa ?_
   obtain rfl:=sj au
   exact⟨_,Z,_,_,Z,_,aV,aU,(gt aw aK),f.k Z,m,aW⟩
  ·refine Ag f Z ay ?_
   refine Aw Z ?_
   obtain rfl:=sj au
   obtain rfl:=av _ rfl
   exact⟨_,Z,_,ap,aq,aw,f.k Z,m,ax⟩
 ·rintro a w ⟨ah,rfl,ai,aj,ak,aX,f,m,aY⟩
  refine Ac ?_
  refine Ab f Z fun a f=>Ad f Z fun a f=>Aa ?_
  refine Ao ?_
  obtain rfl:=sj hd
  exact⟨[aj],⟨f.get _ _ Z,trivial⟩,f.defers,_,[ak],aX,m,_,_,Z,Z,aY⟩
theorem Wk.n0 {W w:World}{G:GH}{H:List Itm}{v0_0:Value}{v0_1:Value}{x0_0:(List (List Int))}{x0_1:(List (List Int))}(hW:CW W)(m:Mem W G w (H))(h0_0:RSl (RSl (RI .i64)) G v0_0 x0_0)(h0_1:RSl (RSl (RI .i64)) G v0_1 x0_1){y:((List (List Int)))×((List (List Int)))}(hd:D.n0 x0_0 x0_1=some y):
  Calls Tryz.prog 37 #[(.agg #[v0_0,v0_1])] w (Res W G H (fun G' Ho v=>∃r0:Value,∃i0:Itm,∃r2:Value,∃i2:Itm,Ho=[i0,i2]∧v=(.agg #[r0,r2])∧Ow2 (RI .i64) 31 2 G' i0 r0 y.1∧Ow2 (RI .i64) 31 2 G' i2 r2 y.2)):=by
 refine Aq (args:=[(.agg #[v0_0,v0_1])]) (N:=91) [.cell 2 36] Tryz.func37 Z Z (Nat.le_of_ble_eq_true Z) Z fun a f=> ?_
 unfold D.n0 at hd
 refine Ac ?_
 refine Bm (cs:=[v0_0,v0_1]) m f Z Z Z fun aa w a m f=>Bp (cs:=[(.slice none 0 0),(.slice none 0 0)]) Tryz.zeroValue36 m f Z Z fun ab w a m f=>Aa (Af ?_)
 refine AY 8 AI (by kernel_rfl) m ?_
 refine BT 0 8 Tryz.underlying36 Z Tryz.sizeOf27 Z f Z fun a f=>BD 1 8 1 AX Z Z Z f Z fun a f=>BT 3 8 Tryz.underlying36 Z Tryz.sizeOf27 Z f Z fun a f=>BD 4 8 1 AX Z Z Z f Z fun a f=>Br (i:=2) Z (by kernel_rfl) Z fun ac w ad m ae ae=> ?_
 have h0_0:=rd2 ad h0_0
 have h0_1:=rd2 ad h0_1
 obtain⟨af,ag,hd⟩:=bind_some hd
 refine AK f Z Tryz.call73 (Wk.W0 m h0_0 ag) fun ah ai aj w ak m al a f=> ?_
 obtain⟨am,an,rfl,rfl,ao⟩:=al
 have h0_0:=rd2 ak h0_0
 have h0_1:=rd2 ak h0_1
 refine Aa ?_
 refine ae ai [an] _ _ ak m ?_
 refine Br (i:=5) Z (by kernel_rfl) Z fun ap w aq m ar ar=> ?_
 have h0_0:=rd2 aq h0_0
 have h0_1:=rd2 aq h0_1
 have ao:=od1 aq ao
 obtain⟨au,av,hd⟩:=bind_some hd
 refine AK f Z Tryz.call74 (Wk.o1 m h0_1 av) fun aw ax ay w az m aA a f=> ?_
 obtain⟨aB,aC,rfl,rfl,aD⟩:=aA
 have h0_0:=rd2 az h0_0
 have h0_1:=rd2 az h0_1
 have ao:=od1 az ao
 refine Aa ?_
 refine ar ax [aC,an] _ _ az m ?_
 refine q_p 6 8 Z f (fun _=>A5 (f.eval Z)) fun a f=>q_p 7 8 Z f (fun _=>A5 (f.eval Z)) fun a f=>AU fun aE w aF m=> ?_
 have h0_0:=rd2 aF h0_0
 have h0_1:=rd2 aF h0_1
 have aD:=Ow.mono (RSl.mono (RI.mono _)) aF aD
 have ao:=od1 aF ao
 refine Aa (Ac ?_)
 refine Ab f Z fun a f=> ?_
 obtain⟨aG,aH,hd⟩:=bind_some hd
 refine AK f Z Tryz.call75 (Ow.sortCall aD m (fun Z hZ=>(Bn aH hZ).imp (fun zs h=>⟨h.2.1,h.2.2,fun _ _ m o=>Wk.T m o h.1⟩))) fun aI aJ aK w aL m aM a f=> ?_
 obtain⟨aN,rfl,aO⟩:=aM
 have h0_0:=rd2 aL h0_0
 have h0_1:=rd2 aL h0_1
 have ao:=od1 aL ao
 refine Aa (Af (Ac ?_))
 refine Ad f Z fun a f=>Aa ?_
 obtain⟨aP,aQ,hd⟩:=bind_some hd
 refine AF (fun a w=>∃aR:List Int,∃aS:List (List Int),(aR,aS)=aP∧∃(aT:GH) (aU:Value) (aV:Itm) (aW:Value) (aX:Itm),GLe aJ aT∧Fr a 91 [(2,(.pointer (some ⟨ab,0,none⟩))),(3,aU),(4,aW)]∧Mem W aT w (Itm.box ab 36 [(.slice none 0 0),(.slice none 0 0)]::aV::aX::H)∧Ow (RI .u32) 65 aT aV aU aR∧Ow (RSl (RI .i64)) 31 aT aX aW aS) ?_ ?_
 ·refine Aj ?_
  have m:=m.front 1 rfl
  have m:=m.front 2 rfl
  have m:=m.eraseAt 3
  refine AC (fun aY a w=>∃aZ:List Int,∃a2:List (List Int),∃a3:Bool,(aZ,a2,a3)=aY∧∃(a4:GH) (a5:Value) (a6:Itm) (a7:Value) (a8:Itm),GLe aJ a4∧Fr a 91 [(2,(.pointer (some ⟨ab,0,none⟩))),(3,a5),(4,a7),(5,(.bool a3))]∧Mem W a4 w (Itm.box ab 36 [(.slice none 0 0),(.slice none 0 0)]::a6::a8::H)∧Ow (RI .u32) 65 a4 a6 a5 aZ∧Ow (RSl (RI .i64)) 31 a4 a8 a7 a2) aQ ⟨_,_,_,Z,_,am,an,aB,aN,gr,f.k Z,m,ao,aO⟩ ?_
  clear aQ f m
  rintro aY a9 ba bb a w ⟨aZ,a2,a3,rfl,a4,a5,a6,a7,a8,bc,f,m,bd,be⟩
  refine Af (Ac ?_)
  refine Ab f Z fun a f=>Aa ?_
  rcases Ae ba with⟨bf,ba⟩|⟨bf,ba⟩
  ·refine Ak f Z bf ?_
   refine Al ?_
   refine Aj (Ac ?_)
   refine Ad f Z fun a f=>Aa (Ac ?_)
   refine Ab f Z fun a f=>Bw 2 m be Z Tryz.underlying27 f Z Z fun a f=>Ab f Z fun a f=>Aa ?_
   obtain⟨bg,bh,ba⟩:=bind_some ba
   refine AF (fun a w=>∃bi:List Int,∃bj:List (List Int),∃bk:Bool,(bi,bj,bk)=bg∧∃(bl:GH) (bm:Value) (bn:Itm) (bo:Value) (bp:Itm),GLe a4 bl∧Fr a 91 [(2,(.pointer (some ⟨ab,0,none⟩))),(3,bm),(4,bo),(5,(.bool bk))]∧Mem W bl w (Itm.box ab 36 [(.slice none 0 0),(.slice none 0 0)]::bn::bp::H)∧Ow (RI .u32) 65 bl bn bm bi∧Ow (RSl (RI .i64)) 31 bl bp bo bj) ?_ ?_
   ·refine Aj ?_
    refine AC (fun bq a w=>∃br:Int,br=bq∧∃(bs:GH),GLe a4 bs∧Fr a 91 [(2,(.pointer (some ⟨ab,0,none⟩))),(3,a5),(4,a7),(5,(.bool false)),(22,a7),(23,(.int .i64 (a2.length:Int))),(24,(.int .i64 br))]∧Mem W bs w (Itm.box ab 36 [(.slice none 0 0),(.slice none 0 0)]::a6::a8::H)) bh ⟨_,Z,_,gr,f.k Z,m⟩ ?_
    clear bh f m
    rintro bq bt bu bv a w ⟨br,rfl,bs,bw,f,m⟩
    have bd:=od1 bw bd
    have be:=Ow.mono (RSl.mono (RI.mono _)) bw be
    refine Ac ?_
    refine Ai f Z Z AA fun a f=>Aa (Af ?_)
    rcases Ae bu with⟨bx,bu⟩|⟨bx,bu⟩
    ·refine Ak f Z bx ?_
     refine Al ?_
     refine Af (Aj (Ac ?_))
     obtain⟨bz,bA,bu⟩:=bind_some bu
     refine AV 2 m be Z T27 f Z Z Z bA fun bB a bC f=>Bt 2 m be Z AO f Z Z bC bA fun bD a bE f=>Ad f Z fun a f=>Aa (Af ?_)
     refine AY 8 AI (by kernel_rfl) m ?_
     refine Am 0 8 Z f Z fun a f=> ?_
     obtain⟨bF,bG,bu⟩:=bind_some bu
     refine BF 1 8 T31 bE bG Z f Z Z fun bH bI a bJ bK f=> ?_
     subst bK
     refine BE 2 8 Pl2 bJ Z f Z fun a f=>Am 3 8 Z f Z fun a f=> ?_
     obtain⟨bL,bM,bu⟩:=bind_some bu
     refine BF 4 8 T31 bE bM Z f Z Z fun bN bO a bP bQ f=> ?_
     subst bQ
     refine BE 5 8 Pl2 bP Z f Z fun a f=>q_p 6 8 Z f (fun _=>A5 (f.eval Z)) fun a f=>q_p 7 8 Z f (fun _=>A5 (f.eval Z)) fun a f=>AU fun bR w bS m=> ?_
     have bE:=rd1 bS bE
     have bJ:=At.mono bS bJ
     have bP:=At.mono bS bP
     have bd:=od1 bS bd
     have be:=Ow.mono (RSl.mono (RI.mono _)) bS be
     refine Aa (Af (Aj (Af ?_)))
     refine AY 11 AI (by kernel_rfl) m ?_
     refine Am 0 11 Z f Z fun a f=>Am 1 11 Z f Z fun a f=> ?_
     obtain⟨bT,bU,bu⟩:=bind_some bu
     refine AW 2 11 1 m bd T60 bU Z f Z Z fun bV a bW f=>Bg 3 11 1 bd DB bW bU Z f Z fun bX a bY f=> ?_
     subst bY
     refine Am 4 11 Z f Z fun a f=>Am 5 11 Z f Z fun a f=> ?_
     obtain⟨bZ,b0,bu⟩:=bind_some bu
     refine AW 6 11 1 m bd T60 b0 Z f Z Z fun b1 a b2 f=>Bg 7 11 1 bd DB b2 b0 Z f Z fun b3 a b4 f=> ?_
     subst b4
     refine q_p 8 11 Z f (fun _=>AL (f.eval Z) (f.eval Z) C7) fun a f=>q_p 9 11 Z f (fun _=>AL (f.eval Z) (f.eval Z) BH) fun a f=>q_p 10 11 Z f (fun _=>A5 (f.eval Z)) fun a f=>AU fun b5 w b6 m=> ?_
     have bE:=rd1 b6 bE
     have bd:=od1 b6 bd
     have be:=Ow.mono (RSl.mono (RI.mono _)) b6 be
     refine Aa ?_
     rcases Ae bu with⟨b7,bu⟩|⟨b7,bu⟩
     ·refine Ak f Z b7 ?_
      refine Ah ?_
      refine Ab f Z fun a f=>Ab f Z fun a f=>Ab f Z fun a f=>Ab f Z fun a f=> ?_
      have m:Mem W b5 w (a6::Itm.box ab 36 [(.slice none 0 0),(.slice none 0 0)]::a8::H):=m.front 1 rfl
      obtain⟨b8,b9,m,ca⟩:=Ow.stamp (RI.mono _) bd m
      have bE:=rd1 b9 bE
      have be:=Ow.mono (RSl.mono (RI.mono _)) b9 be
      have m:=m.front 1 rfl
      obtain⟨cb,cc,m,cd⟩:=Ow.stamp (RSl.mono (RI.mono _)) be m
      have ca:=rd1 cc ca
      have bE:=rd1 cc bE
      obtain⟨ce,cf,bu⟩:=bind_some bu
      refine AK f Z Tryz.call77 (Wk.g m ca cd cf) fun cg ch ci w cj m ck a f=> ?_
      obtain⟨cl,cm,cn,co,rfl,rfl,cp,cq⟩:=ck
      have ca:=rd1 cj ca
      have cd:=rd2 cj cd
      have bE:=rd1 cj bE
      refine Ab f Z fun a f=>l_o f (A9 (f.eval Z) Z) fun a f=>l_o f (A9 (f.eval Z) Z) fun a f=>Ad f Z fun a f=>Ad f Z fun a f=>Aa (Ac ?_)
      refine Ad f Z fun a f=>Aa ?_
      refine Aw Z ?_
      have m:Mem W ch w (Itm.box ab 36 [(.slice none 0 0),(.slice none 0 0)]::cm::co::H):=m.front 2 rfl
      obtain rfl:=sj bu
      obtain rfl:=bv _ rfl
      exact⟨_,_,_,Z,_,cl,cm,cn,co,(gt bw (gt bS (gt b6 (gt b9 (gt cc cj))))),f.k Z,m,cp,cq⟩
     ·refine Ag f Z b7 ?_
      refine Af ?_
      refine AY 11 AI (by kernel_rfl) m ?_
      refine Am 0 11 Z f Z fun a f=>Am 1 11 Z f Z fun a f=> ?_
      obtain⟨cr,ct,bu⟩:=bind_some bu
      refine AW 2 11 1 m bd T60 ct Z f Z Z fun cu a cv f=>Bg 3 11 1 bd DB cv ct Z f Z fun cw a cx f=> ?_
      subst cx
      refine Am 4 11 Z f Z fun a f=>Am 5 11 Z f Z fun a f=> ?_
      obtain⟨cy,cz,bu⟩:=bind_some bu
      refine AW 6 11 1 m bd T60 cz Z f Z Z fun cA a cB f=>Bg 7 11 1 bd DB cB cz Z f Z fun cC a cD f=> ?_
      subst cD
      refine q_p 8 11 Z f (fun _=>AL (f.eval Z) (f.eval Z) C7) fun a f=>q_p 9 11 Z f (fun _=>AL (f.eval Z) (f.eval Z) BH) fun a f=>q_p 10 11 Z f (fun _=>A5 (f.eval Z)) fun a f=>AU fun cE w cF m=> ?_
      have bE:=rd1 cF bE
      have bd:=od1 cF bd
      have be:=Ow.mono (RSl.mono (RI.mono _)) cF be
      refine Aa ?_
      rcases Ae bu with⟨cG,bu⟩|⟨cG,bu⟩
      ·refine Ak f Z cG ?_
       refine Ah ?_
       refine Ab f Z fun a f=>Ab f Z fun a f=>Ab f Z fun a f=>Ab f Z fun a f=> ?_
       have m:Mem W cE w (a6::Itm.box ab 36 [(.slice none 0 0),(.slice none 0 0)]::a8::H):=m.front 1 rfl
       obtain⟨cH,cI,m,cJ⟩:=Ow.stamp (RI.mono _) bd m
       have bE:=rd1 cI bE
       have be:=Ow.mono (RSl.mono (RI.mono _)) cI be
       have m:=m.front 1 rfl
       obtain⟨cK,cL,m,cM⟩:=Ow.stamp (RSl.mono (RI.mono _)) be m
       have cJ:=rd1 cL cJ
       have bE:=rd1 cL bE
       obtain⟨cN,cO,bu⟩:=bind_some bu
       refine AK f Z Tryz.call77 (Wk.g m cJ cM cO) fun cP cQ cR w cS m cT a f=> ?_
       obtain⟨cU,cV,cW,cX,rfl,rfl,cY,cZ⟩:=cT
       have cJ:=rd1 cS cJ
       have cM:=rd2 cS cM
       have bE:=rd1 cS bE
       refine Ab f Z fun a f=>l_o f (A9 (f.eval Z) Z) fun a f=>l_o f (A9 (f.eval Z) Z) fun a f=>Ad f Z fun a f=>Ad f Z fun a f=>Aa (Ac ?_)
       refine Ad f Z fun a f=>Aa ?_
       refine Aw Z ?_
       have m:Mem W cQ w (Itm.box ab 36 [(.slice none 0 0),(.slice none 0 0)]::cV::cX::H):=m.front 2 rfl
       obtain rfl:=sj bu
       obtain rfl:=bv _ rfl
       exact⟨_,_,_,Z,_,cU,cV,cW,cX,(gt bw (gt bS (gt b6 (gt cF (gt cI (gt cL cS)))))),f.k Z,m,cY,cZ⟩
      ·refine Ag f Z cG ?_
       refine Aw Z ?_
       refine Ah ?_
       refine Ai f Z Z As fun a f=>Ab f Z fun a f=>Aa ?_
       obtain rfl:=sj bu
       exact⟨_,Z,_,Z,_,(gt bw (gt bS (gt b6 cF))),f.k Z,m⟩
    ·refine Ag f Z bx ?_
     refine Aw Z ?_
     obtain rfl:=sj bu
     obtain rfl:=bv _ rfl
     exact⟨_,_,_,Z,_,a5,a6,a7,a8,bw,f.k Z,m,bd,be⟩
   ·rintro a w ⟨bi,bj,bk,rfl,bl,bm,bn,bo,bp,c0,f,m,c1,c2⟩
    obtain rfl:=sj ba
    exact⟨_,Z,_,_,_,Z,_,bm,bn,bo,bp,(gt bc c0),f.k Z,m,c1,c2⟩
  ·refine Ag f Z bf ?_
   refine Aw Z ?_
   obtain rfl:=sj ba
   obtain rfl:=bb _ rfl
   exact⟨_,_,Z,_,a5,a6,a7,a8,bc,f.k Z,m,bd,be⟩
 ·rintro a w ⟨aR,aS,rfl,aT,aU,aV,aW,aX,c3,f,m,c4,c5⟩
  refine Ac ?_
  refine Ab f Z fun a f=> ?_
  obtain⟨c6,c7,hd⟩:=bind_some hd
  refine AK f Z Tryz.call78 (Ow.lendCall (RI.mono _) 1 c4 m Z (fun c8 c9 m da=>Wk.u0 hW m da c7) (fun _ G' _ _ ⟨a0,a1,e1,e2,o0⟩=>⟨a0,a1,e1,e2,Ow2.free (RI.free _) G' o0⟩)) fun db dc dd w de m df a f=> ?_
  obtain⟨dg,dh,rfl,rfl,di⟩:=df
  have c4:=od1 de c4
  have c5:=Ow.mono (RSl.mono (RI.mono _)) de c5
  have dj:∀w,(Instr.build 36 #[(0,dg)]).run Tryz.prog w= .ok (.agg #[dg,(.slice none 0 0)]) w:=by intro w;simp[Instr.build,Instr.fill,(Ow2.cells 0 m di rfl),Ct,Cg,B3,B5,BQ,Ch]
  refine CL f Z Z dj fun a f=>Bp (cs:=[(.slice none 0 0),(.slice none 0 0)]) Tryz.zeroValue36 m f Z Z fun dk w a m f=>AG 0 0 (ds:=[dg,(.slice none 0 0)]) m Tryz.sizeOf36 f Z Z Z (Av (Ow2.one1 1 m di Z) (Av Z AS)) Z (Nat.le_of_ble_eq_true Z) Z fun w m=>Aa (Af (Ac ?_))
  refine Ab f Z fun a f=>Bw 4 m c5 Z Tryz.underlying27 f Z Z fun a f=>Ab f Z fun a f=>Aa ?_
  obtain⟨dl,m,dm⟩:=Ow2.nil (RI .i64) 31 2 m
  obtain⟨dn,dp,hd⟩:=bind_some hd
  refine AF (fun a w=>∃dq:List (List Int),dq=dn∧∃(dr:GH) (dt:Value) (du:Itm),GLe dc dr∧Fr a 91 [(2,(.pointer (some ⟨ab,0,none⟩))),(10,(.pointer (some ⟨dk,0,none⟩)))]∧Mem W dr w (Itm.box ab 36 [(.slice none 0 0),(.slice none 0 0)]::Itm.box dk 36 [dg,dt]::dh::du::H)∧Ow2 (RI .i64) 31 2 dr du dt dq) ?_ ?_
  ·refine Aj ?_
   have m:=m.front 2 rfl
   have m:=m.front 5 rfl
   have m:Mem W dc w (Itm.box dk 36 [dg,(.slice none 0 0)]::aX::dh::dl::Itm.box ab 36 [(.slice none 0 0),(.slice none 0 0)]::aV::H):=m.front 3 rfl
   have m:=m.front 4 rfl
   have m:Mem W dc w (Itm.box ab 36 [(.slice none 0 0),(.slice none 0 0)]::Itm.box dk 36 [dg,(.slice none 0 0)]::aX::dh::dl::H):=m.eraseAt 5
   refine AC (fun dv a w=>∃dw:Int,∃dx:List (List Int),(dw,dx)=dv∧∃(dy:GH) (dz:Value) (dA:Itm),GLe dc dy∧Fr a 91 [(2,(.pointer (some ⟨ab,0,none⟩))),(10,(.pointer (some ⟨dk,0,none⟩))),(76,aW),(77,(.int .i64 (aS.length:Int))),(78,(.int .i64 dw))]∧Mem W dy w (Itm.box ab 36 [(.slice none 0 0),(.slice none 0 0)]::Itm.box dk 36 [dg,dz]::aX::dh::dA::H)∧Ow2 (RI .i64) 31 2 dy dA dz dx) dp ⟨_,_,Z,_,(.slice none 0 0),dl,gr,f.k Z,m,dm⟩ ?_
   clear dp f m
   rintro dv dB dC dD a w ⟨dw,dx,rfl,dy,dz,dA,dE,f,m,dF⟩
   have c5:=Ow.mono (RSl.mono (RI.mono _)) dE c5
   have di:=od2 dE di
   refine Ac ?_
   refine Ai f Z Z AA fun a f=>Aa (Af ?_)
   rcases Ae dC with⟨dG,dC⟩|⟨dG,dC⟩
   ·refine Ak f Z dG ?_
    refine Al ?_
    refine Af (Aj (Ac ?_))
    obtain⟨dH,dI,dC⟩:=bind_some dC
    refine AV 2 m c5 Z T27 f Z Z Z dI fun dJ a dK f=>Bt 2 m c5 Z AO f Z Z dK dI fun dL a dM f=>Ad f Z fun a f=>Aa ?_
    refine AY 5 AI (by kernel_rfl) m ?_
    refine BT 0 5 Tryz.underlying36 Z Tryz.sizeOf27 Z f Z fun a f=>BD 1 5 1 AX Z Z Z f Z fun a f=>Am 2 5 Z f Z fun a f=>Br (i:=3) Z (by kernel_rfl) Z fun dN w dO m dP dP=> ?_
    have dM:=rd1 dO dM
    have c5:=Ow.mono (RSl.mono (RI.mono _)) dO c5
    have di:=od2 dO di
    have dF:=od2 dO dF
    obtain⟨dQ,dR,dC⟩:=bind_some dC
    refine AK f Z Tryz.call79 (Wk.Y0 m dM dR) fun dS dT dU w dV m dW a f=> ?_
    obtain⟨dX,dY,rfl,rfl,dZ⟩:=dW
    have dM:=rd1 dV dM
    have c5:=Ow.mono (RSl.mono (RI.mono _)) dV c5
    have di:=od2 dV di
    have dF:=od2 dV dF
    refine Aa ?_
    refine dP dT [dY] _ _ dV m ?_
    refine Br (i:=4) Z (by kernel_rfl) Z fun d0 w d1 m d2 d2=> ?_
    have dM:=rd1 d1 dM
    have dZ:=od1 d1 dZ
    have c5:=Ow.mono (RSl.mono (RI.mono _)) d1 c5
    have di:=od2 d1 di
    have dF:=od2 d1 dF
    refine A7 (R:=RawS) (xs:=[dX]) RawS.one m T27 f Z Z Z (by decide) (All2.cons ⟨Z,Ow.one1 0 m dZ Z,Ow.cells 0 m dZ Z⟩ (All2.nil _)) fun d3 d4 w a m d5 f=>Aa ?_
    refine d2 d0 [d3,dY] _ _ gr m ?_
    refine AU fun d6 w d7 m=> ?_
    have dM:=rd1 d7 dM
    have d5:=Ow.mono RawS.mono d7 d5
    have dZ:=od1 d7 dZ
    have c5:=Ow.mono (RSl.mono (RI.mono _)) d7 c5
    have di:=od2 d7 di
    have dF:=od2 d7 dF
    have m:=m.front 1 rfl
    have m:Mem W d6 w (dA::dY::d3::Itm.box ab 36 [(.slice none 0 0),(.slice none 0 0)]::Itm.box dk 36 [dg,dz]::aX::dh::H):=m.front 6 rfl
    obtain⟨d8,d9,dC⟩:=bind_some dC
    refine Ek m dF dZ d5 T27 Z (by decide) f Z Z Z d9 fun ea eb w a m ec f=>Bk Tryz.underlying36 Z Tryz.sizeOf27 f Z fun a f=>AG 2 1 (ds:=[eb]) m Tryz.sizeOf27 f Z Z (Ow2.cells 0 m ec Z) (Av (Ow2.one1 0 m ec Z) AS) Z (Nat.le_of_ble_eq_true Z) Z fun w m=>Aa (Ah ?_)
    refine Ai f Z Z As fun a f=>Ab f Z fun a f=>Aa ?_
    have m:=m.front 4 rfl
    have m:=m.front 4 rfl
    have m:Mem W d6 w (Itm.box dk 36 [dg,eb]::aX::dh::ea::Itm.box ab 36 [(.slice none 0 0),(.slice none 0 0)]::H):=m.front 4 rfl
    have m:Mem W d6 w (Itm.box ab 36 [(.slice none 0 0),(.slice none 0 0)]::Itm.box dk 36 [dg,eb]::aX::dh::ea::H):=m.front 4 rfl
    obtain rfl:=sj dC
    exact⟨_,Z,_,_,Z,_,eb,ea,(gt dE (gt dO (gt dV (gt d1 d7)))),f.k Z,m,ec⟩
   ·refine Ag f Z dG ?_
    refine Aw Z ?_
    have m:=m.front 4 rfl
    have m:=m.front 4 rfl
    have m:Mem W dy w (Itm.box dk 36 [dg,dz]::dh::dA::Itm.box ab 36 [(.slice none 0 0),(.slice none 0 0)]::aX::H):=m.front 3 rfl
    have m:=m.front 3 rfl
    have m:Mem W dy w (Itm.box ab 36 [(.slice none 0 0),(.slice none 0 0)]::Itm.box dk 36 [dg,dz]::dh::dA::H):=m.eraseAt 4
    obtain rfl:=sj dC
    obtain rfl:=dD _ rfl
    exact⟨_,Z,_,dz,dA,dE,f.k Z,m,dF⟩
  ·rintro a w ⟨dq,rfl,dr,dt,du,ed,f,m,ee⟩
   have di:=od2 ed di
   refine Ac ?_
   refine AE 1 0 (ds:=[dg,dt]) m BG f Z Z Z Z Z fun a f=>AG 0 0 (ds:=[dg,dt]) m Tryz.sizeOf36 f Z Z Z (Av (Ow2.one1 2 m di Z) (Av (Ow2.one1 3 m ee Z) AS)) Z (Nat.le_of_ble_eq_true Z) Z fun w m=>Aa ?_
   refine Ao ?_
   have ef:=Ci (P:=Tryz.prog) 0 m BG f (s:=2) rfl rfl rfl
   have m:=m.front 3 rfl
   have m:=m.front 3 rfl
   have m:Mem W dr w (dh::du::Itm.box ab 36 [dg,dt]::H):=m.eraseAt 3
   have m:=m.eraseAt 2
   obtain rfl:=sj hd
   exact⟨[(.agg #[dg,dt])],⟨ef,trivial⟩,f.defers,_,[dh,du],(gt ad (gt ak (gt aq (gt az (gt aF (gt aL (gt c3 (gt de ed)))))))),m,_,_,_,_,Z,Z,di,ee⟩
theorem Wk.K {W w:World}{G:GH}{H:List Itm}{v0_0:Value}{x0_0:(List (List Int))}(hW:CW W)(m:Mem W G w (H))(h0_0:RSl (RSl (RI .i64)) G v0_0 x0_0){y:((List (List Int)))×((List (List Int)))×Bool}(hd:D.K x0_0=some y):
  Calls Tryz.prog 11 #[(.agg #[v0_0])] w (Res W G H (fun G' Ho v=>∃r0:Value,∃i0:Itm,∃r2:Value,∃i2:Itm,Ho=[i0,i2]∧v= .tuple #[(.agg #[r0,r2]),(.bool y.2.2)]∧Ow2 (RI .i64) 31 2 G' i0 r0 y.1∧Ow2 (RI .i64) 31 2 G' i2 r2 y.2.1)):=by
 refine Aq (args:=[(.agg #[v0_0])]) (N:=16) [.cell 2 36,.tmp 3] Tryz.func11 Z Z (Nat.le_of_ble_eq_true Z) Z fun a f=> ?_
 unfold D.K at hd
 refine Ac ?_
 refine Bm (cs:=[v0_0]) m f Z Z Z fun aa w a m f=>Bp (cs:=[(.slice none 0 0),(.slice none 0 0)]) Tryz.zeroValue36 m f Z Z fun ab w a m f=>Ad f Z fun a f=>Aa (Af (Ac ?_))
 refine AE 1 0 (ds:=[v0_0]) m Bo f Z Z Z Z Z fun a f=> ?_
 obtain⟨ac,ad,hd⟩:=bind_some hd
 refine Bc f Z Tryz.call31 (Wk.S0 m h0_0 ad) fun ae w af m a f=> ?_
 have h0_0:=rd2 af h0_0
 refine l_o f (Bs (f.eval Z)) fun a f=>Aa ?_
 rcases Ae hd with⟨ag,hd⟩|⟨ag,hd⟩
 ·refine Ak f Z ag ?_
  refine Ac ?_
  have ah:∀w,(Instr.build 36 #[]).run Tryz.prog w= .ok (.agg #[(.slice none 0 0),(.slice none 0 0)]) w:=by intro w;simp[Instr.build,Instr.fill,Ct,Cg,B3,B5,BQ,Ch]
  refine CL f Z Z ah fun a f=>AG 0 0 (ds:=[(.slice none 0 0),(.slice none 0 0)]) m Tryz.sizeOf36 f Z Z Z (Av Z (Av Z AS)) Z (Nat.le_of_ble_eq_true Z) Z fun w m=>Ad f Z fun a f=>Aa ?_
  refine Ao ?_
  obtain⟨ai,m,aj⟩:=Ow2.nil (RI .i64) 31 2 m
  obtain⟨ak,m,al⟩:=Ow2.nil (RI .i64) 31 2 m
  have am:=Ci (P:=Tryz.prog) 2 m BG f (s:=2) rfl rfl rfl
  have m:=m.front 1 rfl
  have m:=m.eraseAt 3
  have m:=m.eraseAt 2
  obtain rfl:=sj hd
  exact⟨[(.agg #[(.slice none 0 0),(.slice none 0 0)]),(.bool false)],⟨am,f.get _ _ Z,trivial⟩,f.defers,_,[ai,ak],af,m,_,_,_,_,Z,Z,aj,al⟩
 ·refine Ag f Z ag ?_
  refine Al ?_
  refine Ac ?_
  refine AE 1 0 (ds:=[v0_0]) m Bo f Z Z Z Z Z fun a f=> ?_
  obtain⟨an,ao,hd⟩:=bind_some hd
  refine AK f Z Tryz.call33 (Wk.b0 m h0_0 ao) fun ap aq ar w au m av a f=> ?_
  obtain⟨aw,ax,rfl,rfl,ay⟩:=av
  have h0_0:=rd2 au h0_0
  refine Ad f Z fun a f=>Aa (Ac ?_)
  refine Ab f Z fun a f=>Ab f Z fun a f=> ?_
  obtain⟨az,aA,hd⟩:=bind_some hd
  refine AK f Z Tryz.call36 (Ow.lendCall (RI.mono _) 0 ay m Z (fun aB aC m aD=>Wk.z0 hW m aD aA) (fun _ G' _ _ ⟨r0,i0,h1,h2,h3⟩=>⟨r0,i0,h1,h2,Ow.free (RI.free _) G' h3⟩)) fun aE aF aG w aH m aI a f=> ?_
  obtain⟨aJ,aK,rfl,rfl,aL⟩:=aI
  have h0_0:=rd2 aH h0_0
  have ay:=od1 aH ay
  obtain⟨aM,aN,hd⟩:=bind_some hd
  refine AK f Z Tryz.call38 (Ow.lendCall (RI.mono _) 1 ay m Z (fun aO aP m aQ=>(Ow.lendCall (RI.mono _) 0 (od1 aP aL) m Z (fun aR aS m aT=>Wk.V hW m (rd1 aS aQ) aT aN) (fun _ G' _ _ ⟨a0,a1,a2,a3,e1,e2,o0,o1⟩=>⟨a0,a1,a2,a3,e1,e2,Ow2.free (RI.free _) G' o0,Ow2.free (RI.free _) G' o1⟩))) (fun _ G' _ _ ⟨a0,a1,a2,a3,e1,e2,o0,o1⟩=>⟨a0,a1,a2,a3,e1,e2,Ow2.free (RI.free _) G' o0,Ow2.free (RI.free _) G' o1⟩)) fun aU aV aW w aX m aY a f=> ?_
  obtain⟨aZ,a4,a5,a6,rfl,rfl,a7,a8⟩:=aY
  have h0_0:=rd2 aX h0_0
  have aL:=od1 aX aL
  have ay:=od1 aX ay
  obtain⟨a9,ba,hd⟩:=bind_some hd
  refine AK f Z Tryz.call37 (Ow2.lendCall (RI.mono _) 0 a7 m Z (fun bb bc m bd=>(Ow2.lendCall (RI.mono _) 0 (od2 bc a8) m Z (fun be bf m bg=>Wk.n0 hW m (rd2 bf bd) bg ba) (fun _ G' _ _ ⟨a0,a1,a2,a3,e1,e2,o0,o1⟩=>⟨a0,a1,a2,a3,e1,e2,Ow2.free (RI.free _) G' o0,Ow2.free (RI.free _) G' o1⟩))) (fun _ G' _ _ ⟨a0,a1,a2,a3,e1,e2,o0,o1⟩=>⟨a0,a1,a2,a3,e1,e2,Ow2.free (RI.free _) G' o0,Ow2.free (RI.free _) G' o1⟩)) fun bh bi bj w bk m bl a f=> ?_
  obtain⟨bm,bn,bo,bp,rfl,rfl,bq,br⟩:=bl
  have h0_0:=rd2 bk h0_0
  have a7:=od2 bk a7
  have a8:=od2 bk a8
  have aL:=od1 bk aL
  have ay:=od1 bk ay
  refine AG 6 0 (ds:=[bm,bo]) m Tryz.sizeOf36 f Z Z Z (Av (Ow2.one1 0 m bq Z) (Av (Ow2.one1 1 m br Z) AS)) Z (Nat.le_of_ble_eq_true Z) Z fun w m=>Ad f Z fun a f=>Aa ?_
  refine Ao ?_
  have bs:=Ci (P:=Tryz.prog) 6 m BG f (s:=2) rfl rfl rfl
  have m:=m.eraseAt 7
  have m:=m.eraseAt 6
  have m:Mem W bi w (bn::bp::a4::a6::aK::H):=m.eraseAt 5
  have m:=m.eraseAt 4
  have m:=m.eraseAt 3
  have m:=m.eraseAt 2
  obtain rfl:=sj hd
  exact⟨[(.agg #[bm,bo]),(.bool true)],⟨bs,f.get _ _ Z,trivial⟩,f.defers,_,[bn,bp],(gt af (gt au (gt aH (gt aX bk)))),m,_,_,_,_,Z,Z,bq,br⟩
theorem Wk.n {W w:World}{G:GH}{H:List Itm}{v0:Value}{v1:Value}{x0:(List Int)}{x1:(List Int)}(m:Mem W G w (H))(h0:RSl (RI .i64) G v0 x0)(h1:RSl (RI .i64) G v1 x1){y:Bool}(hd:D.n x0 x1=some y):
  Calls Tryz.prog 101 #[v0,v1] w (Res W G H (fun _ Ho v=>Ho=[]∧v=(.bool y))):=by
 refine Aq (args:=[v0,v1]) (N:=26) [.tmp 4] Tryz.func101 Z Z (Nat.le_of_ble_eq_true Z) Z fun a f=> ?_
 unfold D.n at hd
 refine Ac ?_
 refine Ad f Z fun a f=>Aa (Af (Ac ?_))
 refine Ab f Z fun a f=>AT Tryz.underlying31 f Z Z h0 fun a f=>Ab f Z fun a f=>AT Tryz.underlying31 f Z Z h1 fun a f=>Ai f Z Z Cs fun a f=>Aa ?_
 rcases Ae hd with⟨aa,hd⟩|⟨aa,hd⟩
 ·refine Ak f Z aa ?_
  refine Ac ?_
  refine Ad f Z fun a f=>Aa ?_
  refine Ao ?_
  obtain rfl:=sj hd
  exact⟨[(.bool false)],⟨f.get _ _ Z,trivial⟩,f.defers,_,[],gr,m,Z,Z⟩
 ·refine Ag f Z aa ?_
  refine Al ?_
  refine Af (Ac ?_)
  refine Ad f Z fun a f=>Aa ?_
  obtain⟨ab,ac,hd⟩:=bind_some hd
  refine AF (fun a w=>∃q_36':Unit,ab= .inl q_36'∧∃(ad:GH),GLe G ad∧Fr a 26 []∧Mem W ad w (H)) ?_ ?_
  ·refine Aj ?_
   refine AC (fun ae a w=>∃af:Int,af=ae∧∃(ag:GH),GLe G ag∧Fr a 26 [(0,v0),(1,v1),(5,(.int .i64 af))]∧Mem W ag w (H)) ac ⟨_,Z,_,gr,f.k Z,m⟩ ?_
   clear ac f m
   rintro ae ah ai aj a w ⟨af,rfl,ag,ak,f,m⟩
   have h0:=rd1 ak h0
   have h1:=rd1 ak h1
   refine Af (Ac ?_)
   refine Ab f Z fun a f=>Ab f Z fun a f=>AT Tryz.underlying31 f Z Z h0 fun a f=>Ai f Z Z AA fun a f=>Aa ?_
   rcases Ae ai with⟨al,ai⟩|⟨al,ai⟩
   ·refine Ak f Z al ?_
    refine Al ?_
    refine Af (Aj (Af ?_))
    refine AY 9 AI (by kernel_rfl) m ?_
    refine Am 0 9 Z f Z fun a f=>Am 1 9 Z f Z fun a f=> ?_
    obtain⟨am,an,ai⟩:=bind_some ai
    refine BF 2 9 T31 h0 an Z f Z Z fun ao ap a aq ar f=> ?_
    subst ar
    refine BE 3 9 Pl2 aq Z f Z fun a f=>Am 4 9 Z f Z fun a f=>Am 5 9 Z f Z fun a f=> ?_
    obtain⟨au,av,ai⟩:=bind_some ai
    refine BF 6 9 T31 h1 av Z f Z Z fun aw ax a ay az f=> ?_
    subst az
    refine BE 7 9 Pl2 ay Z f Z fun a f=>q_p 8 9 Z f (fun _=>AL (f.eval Z) (f.eval Z) Cs) fun a f=>AU fun aA w aB m=> ?_
    have h0:=rd1 aB h0
    have h1:=rd1 aB h1
    have aq:=At.mono aB aq
    have ay:=At.mono aB ay
    refine Aa ?_
    rcases Ae ai with⟨aC,ai⟩|⟨aC,ai⟩
    ·refine Ak f Z aC ?_
     refine Ac ?_
     refine Ad f Z fun a f=>Aa ?_
     refine Ao ?_
     obtain rfl:=sj ai
     obtain rfl:=aj _ rfl
     obtain rfl:=sj hd
     exact⟨[(.bool false)],⟨f.get _ _ Z,trivial⟩,f.defers,_,[],(gt ak aB),m,Z,Z⟩
    ·refine Ag f Z aC ?_
     refine Al ?_
     refine Ah ?_
     refine Ab f Z fun a f=>Ai f Z Z As fun a f=>Ad f Z fun a f=>Aa ?_
     obtain rfl:=sj ai
     exact⟨_,Z,_,Z,_,(gt ak aB),f.k Z,m⟩
   ·refine Ag f Z al ?_
    refine Aw Z ?_
    obtain rfl:=sj ai
    obtain rfl:=aj _ rfl
    exact⟨_,Z,_,ak,f.weak trivial,m⟩
  ·rintro a w ⟨_,rfl,ad,aD,f,m⟩
   refine Ac ?_
   refine Ad f Z fun a f=>Aa ?_
   refine Ao ?_
   obtain rfl:=sj hd
   exact⟨[(.bool true)],⟨f.get _ _ Z,trivial⟩,f.defers,_,[],aD,m,Z,Z⟩
theorem Wk.D {W w:World}{G:GH}{H:List Itm}{v0:Value}{v1:Value}{x0:(List (List Int))}{x1:(List (List Int))}(m:Mem W G w (H))(h0:RSl (RSl (RI .i64)) G v0 x0)(h1:RSl (RSl (RI .i64)) G v1 x1){y:Bool}(hd:D.D x0 x1=some y):
  Calls Tryz.prog 63 #[v0,v1] w (Res W G H (fun _ Ho v=>Ho=[]∧v=(.bool y))):=by
 refine Aq (args:=[v0,v1]) (N:=27) [.tmp 4] Tryz.func63 Z Z (Nat.le_of_ble_eq_true Z) Z fun a f=> ?_
 unfold D.D at hd
 refine Ac ?_
 refine Ad f Z fun a f=>Aa (Af (Ac ?_))
 refine Ab f Z fun a f=>AT Tryz.underlying27 f Z Z h0 fun a f=>Ab f Z fun a f=>AT Tryz.underlying27 f Z Z h1 fun a f=>Ai f Z Z Cs fun a f=>Aa ?_
 rcases Ae hd with⟨aa,hd⟩|⟨aa,hd⟩
 ·refine Ak f Z aa ?_
  refine Ac ?_
  refine Ad f Z fun a f=>Aa ?_
  refine Ao ?_
  obtain rfl:=sj hd
  exact⟨[(.bool false)],⟨f.get _ _ Z,trivial⟩,f.defers,_,[],gr,m,Z,Z⟩
 ·refine Ag f Z aa ?_
  refine Al ?_
  refine Af (Ac ?_)
  refine Ad f Z fun a f=>Aa ?_
  obtain⟨ab,ac,hd⟩:=bind_some hd
  refine AF (fun a w=>∃q_42':Unit,ab= .inl q_42'∧∃(ad:GH),GLe G ad∧Fr a 27 []∧Mem W ad w (H)) ?_ ?_
  ·refine Aj ?_
   refine AC (fun ae a w=>∃af:Int,af=ae∧∃(ag:GH),GLe G ag∧Fr a 27 [(0,v0),(1,v1),(5,(.int .i64 af))]∧Mem W ag w (H)) ac ⟨_,Z,_,gr,f.k Z,m⟩ ?_
   clear ac f m
   rintro ae ah ai aj a w ⟨af,rfl,ag,ak,f,m⟩
   have h0:=rd2 ak h0
   have h1:=rd2 ak h1
   refine Af (Ac ?_)
   refine Ab f Z fun a f=>Ab f Z fun a f=>AT Tryz.underlying27 f Z Z h0 fun a f=>Ai f Z Z AA fun a f=>Aa ?_
   rcases Ae ai with⟨al,ai⟩|⟨al,ai⟩
   ·refine Ak f Z al ?_
    refine Al ?_
    refine Af (Aj (Af ?_))
    refine AY 10 AI (by kernel_rfl) m ?_
    refine Am 0 10 Z f Z fun a f=>Am 1 10 Z f Z fun a f=> ?_
    obtain⟨am,an,ai⟩:=bind_some ai
    refine BF 2 10 T27 h0 an Z f Z Z fun ao ap a aq ar f=>BE 3 10 AO aq Z f Z fun a f=>Am 4 10 Z f Z fun a f=>Am 5 10 Z f Z fun a f=> ?_
    obtain⟨au,av,ai⟩:=bind_some ai
    refine BF 6 10 T27 h1 av Z f Z Z fun aw ax a ay az f=>BE 7 10 AO ay Z f Z fun a f=> ?_
    obtain⟨aA,aB,ai⟩:=bind_some ai
    refine Ca (i:=8) 10 Z (by kernel_rfl) Z f Z Z Z Tryz.call101 (fun _ _ w aC m=>Wk.n m (rd1 aC ar) (rd1 aC az) aB) fun a f=>q_p 9 10 Z f (fun _=>Bs (f.eval Z)) fun a f=>AU fun aD w aE m=> ?_
    have h0:=rd2 aE h0
    have h1:=rd2 aE h1
    have aq:=At.mono aE aq
    have ar:=rd1 aE ar
    have ay:=At.mono aE ay
    have az:=rd1 aE az
    refine Aa ?_
    rcases Ae ai with⟨aF,ai⟩|⟨aF,ai⟩
    ·refine Ak f Z aF ?_
     refine Ac ?_
     refine Ad f Z fun a f=>Aa ?_
     refine Ao ?_
     obtain rfl:=sj ai
     obtain rfl:=aj _ rfl
     obtain rfl:=sj hd
     exact⟨[(.bool false)],⟨f.get _ _ Z,trivial⟩,f.defers,_,[],(gt ak aE),m,Z,Z⟩
    ·refine Ag f Z aF ?_
     refine Al ?_
     refine Ah ?_
     refine Ab f Z fun a f=>Ai f Z Z As fun a f=>Ad f Z fun a f=>Aa ?_
     obtain rfl:=sj ai
     exact⟨_,Z,_,Z,_,(gt ak aE),f.k Z,m⟩
   ·refine Ag f Z al ?_
    refine Aw Z ?_
    obtain rfl:=sj ai
    obtain rfl:=aj _ rfl
    exact⟨_,Z,_,ak,f.weak trivial,m⟩
  ·rintro a w ⟨_,rfl,ad,aG,f,m⟩
   refine Ac ?_
   refine Ad f Z fun a f=>Aa ?_
   refine Ao ?_
   obtain rfl:=sj hd
   exact⟨[(.bool true)],⟨f.get _ _ Z,trivial⟩,f.defers,_,[],aG,m,Z,Z⟩
theorem Wk.C {W w:World}{G:GH}{H:List Itm}{v0_0:Value}{v0_1:Value}{v1_0:Value}{v1_1:Value}{x0_0:(List (List Int))}{x0_1:(List (List Int))}{x1_0:(List (List Int))}{x1_1:(List (List Int))}(m:Mem W G w (H))(h0_0:RSl (RSl (RI .i64)) G v0_0 x0_0)(h0_1:RSl (RSl (RI .i64)) G v0_1 x0_1)(h1_0:RSl (RSl (RI .i64)) G v1_0 x1_0)(h1_1:RSl (RSl (RI .i64)) G v1_1 x1_1){y:Bool}(hd:D.C x0_0 x0_1 x1_0 x1_1=some y):
  Calls Tryz.prog 24 #[(.agg #[v0_0,v0_1]),(.agg #[v1_0,v1_1])] w (Res W G H (fun _ Ho v=>Ho=[]∧v=(.bool y))):=by
 refine Aq (args:=[(.agg #[v0_0,v0_1]),(.agg #[v1_0,v1_1])]) (N:=17) [.tmp 4] Tryz.func24 Z Z (Nat.le_of_ble_eq_true Z) Z fun a f=> ?_
 unfold D.C at hd
 refine Ac ?_
 refine Bm (cs:=[v0_0,v0_1]) m f Z Z Z fun aa w a m f=>Bm (cs:=[v1_0,v1_1]) m f Z Z Z fun ab w a m f=>Ad f Z fun a f=>Aa (Af (Ac ?_))
 refine Bk Tryz.underlying36 Z Tryz.sizeOf27 f Z fun a f=>Ay 1 0 m AX f Z Z Z Z fun a f=>Bk Tryz.underlying36 Z Tryz.sizeOf27 f Z fun a f=>Ay 0 0 m AX f Z Z Z Z fun a f=> ?_
 obtain⟨ac,ad,hd⟩:=bind_some hd
 refine Bc f Z Tryz.call63 (Wk.D m h0_0 h1_0 ad) fun ae w af m a f=> ?_
 have h0_0:=rd2 af h0_0
 have h0_1:=rd2 af h0_1
 have h1_0:=rd2 af h1_0
 have h1_1:=rd2 af h1_1
 refine l_o f (Bs (f.eval Z)) fun a f=>Aa ?_
 rcases Ae hd with⟨ag,hd⟩|⟨ag,hd⟩
 ·refine Ak f Z ag ?_
  refine Ac ?_
  refine Ad f Z fun a f=>Aa ?_
  refine Ao ?_
  have m:Mem W ae w H:=Mem.drop (H':=[Itm.box ab 36 [v1_0,v1_1],Itm.box aa 36 [v0_0,v0_1]]) m
  obtain rfl:=sj hd
  exact⟨[(.bool false)],⟨f.get _ _ Z,trivial⟩,f.defers,_,[],af,m,Z,Z⟩
 ·refine Ag f Z ag ?_
  refine Al ?_
  refine Af (Ac ?_)
  refine Bk Tryz.underlying36 Z Tryz.sizeOf27 f Z fun a f=>Ay 1 1 m AX f Z Z Z Z fun a f=>Bk Tryz.underlying36 Z Tryz.sizeOf27 f Z fun a f=>Ay 0 1 m AX f Z Z Z Z fun a f=> ?_
  obtain⟨ah,ai,hd⟩:=bind_some hd
  refine Bc f Z Tryz.call63 (Wk.D m h0_1 h1_1 ai) fun aj w ak m a f=> ?_
  have h0_0:=rd2 ak h0_0
  have h0_1:=rd2 ak h0_1
  have h1_0:=rd2 ak h1_0
  have h1_1:=rd2 ak h1_1
  refine l_o f (Bs (f.eval Z)) fun a f=>Aa ?_
  rcases Ae hd with⟨al,hd⟩|⟨al,hd⟩
  ·refine Ak f Z al ?_
   refine Ac ?_
   refine Ad f Z fun a f=>Aa ?_
   refine Ao ?_
   have m:Mem W aj w H:=Mem.drop (H':=[Itm.box ab 36 [v1_0,v1_1],Itm.box aa 36 [v0_0,v0_1]]) m
   obtain rfl:=sj hd
   exact⟨[(.bool false)],⟨f.get _ _ Z,trivial⟩,f.defers,_,[],(gt af ak),m,Z,Z⟩
  ·refine Ag f Z al ?_
   refine Al ?_
   refine Ac ?_
   refine Ad f Z fun a f=>Aa ?_
   refine Ao ?_
   have m:Mem W aj w H:=Mem.drop (H':=[Itm.box ab 36 [v1_0,v1_1],Itm.box aa 36 [v0_0,v0_1]]) m
   obtain rfl:=sj hd
   exact⟨[(.bool true)],⟨f.get _ _ Z,trivial⟩,f.defers,_,[],(gt af ak),m,Z,Z⟩
theorem Wk.v0 {W w:World}{G:GH}{H:List Itm}{v0_0:Value}{v1_0:Value}{x0_0:(List (List Int))}{x1_0:(List (List Int))}(m:Mem W G w (H))(h0_0:RSl (RSl (RI .i64)) G v0_0 x0_0)(h1_0:RSl (RSl (RI .i64)) G v1_0 x1_0){y:Bool}(hd:D.v0 x0_0 x1_0=some y):
  Calls Tryz.prog 25 #[(.agg #[v0_0]),(.agg #[v1_0])] w (Res W G H (fun _ Ho v=>Ho=[]∧v=(.bool y))):=by
 refine Aq (args:=[(.agg #[v0_0]),(.agg #[v1_0])]) (N:=11) [.tmp 4] Tryz.func25 Z Z (Nat.le_of_ble_eq_true Z) Z fun a f=> ?_
 unfold D.v0 at hd
 refine Ac ?_
 refine Bm (cs:=[v0_0]) m f Z Z Z fun aa w a m f=>Bm (cs:=[v1_0]) m f Z Z Z fun ab w a m f=>Ad f Z fun a f=>Aa (Af (Ac ?_))
 refine Bk Tryz.underlying29 Z Tryz.sizeOf27 f Z fun a f=>Ay 1 0 m AX f Z Z Z Z fun a f=>Bk Tryz.underlying29 Z Tryz.sizeOf27 f Z fun a f=>Ay 0 0 m AX f Z Z Z Z fun a f=> ?_
 obtain⟨ac,ad,hd⟩:=bind_some hd
 refine Bc f Z Tryz.call63 (Wk.D m h0_0 h1_0 ad) fun ae w af m a f=> ?_
 have h0_0:=rd2 af h0_0
 have h1_0:=rd2 af h1_0
 refine l_o f (Bs (f.eval Z)) fun a f=>Aa ?_
 rcases Ae hd with⟨ag,hd⟩|⟨ag,hd⟩
 ·refine Ak f Z ag ?_
  refine Ac ?_
  refine Ad f Z fun a f=>Aa ?_
  refine Ao ?_
  have m:Mem W ae w H:=Mem.drop (H':=[Itm.box ab 29 [v1_0],Itm.box aa 29 [v0_0]]) m
  obtain rfl:=sj hd
  exact⟨[(.bool false)],⟨f.get _ _ Z,trivial⟩,f.defers,_,[],af,m,Z,Z⟩
 ·refine Ag f Z ag ?_
  refine Al ?_
  refine Ac ?_
  refine Ad f Z fun a f=>Aa ?_
  refine Ao ?_
  have m:Mem W ae w H:=Mem.drop (H':=[Itm.box ab 29 [v1_0],Itm.box aa 29 [v0_0]]) m
  obtain rfl:=sj hd
  exact⟨[(.bool true)],⟨f.get _ _ Z,trivial⟩,f.defers,_,[],af,m,Z,Z⟩
theorem Wk.k {W w:World}{G:GH}{H:List Itm}{v0:Value}{it0:Itm}{x0:(List Int)}{x1:Int}(m:Mem W G w (it0::H))(o0:Ow (RI .i64) 2 G it0 v0 x0){y:Int×((List Int))}(hd:D.k x0 x1=some y):
  Calls Tryz.prog 102 #[v0,(.int .i64 x1)] w (Res W G H (fun G' Ho v=>∃i0:Itm,Ho=[i0]∧v=(.int .i64 y.1)∧Ow (RI .i64) 2 G' i0 v0 y.2)):=by
 refine Aq (args:=[v0,(.int .i64 x1)]) (N:=19) [.tmp 4] Tryz.func102 Z Z (Nat.le_of_ble_eq_true Z) Z fun a f=> ?_
 unfold D.k at hd
 refine Ac ?_
 refine Ad f Z fun a f=>Aa (Af (Ac ?_))
 refine Ad f Z fun a f=>Aa ?_
 obtain⟨aa,ab,hd⟩:=bind_some hd
 refine AF (fun a w=>∃ac:List Int,∃ad:Int,(ac,ad)=aa∧∃(ae:GH) (af:Itm),GLe G ae∧Fr a 19 [(1,(.int .i64 ad))]∧Mem W ae w (af::H)∧Ow (RI .i64) 2 ae af v0 ac) ?_ ?_
 ·refine Aj ?_
  refine AC (fun ag a w=>∃ah:List Int,∃ai:Int,∃aj:Int,(ah,ai,aj)=ag∧∃(ak:GH) (al:Itm),GLe G ak∧Fr a 19 [(0,v0),(1,(.int .i64 ai)),(5,(.int .i64 aj))]∧Mem W ak w (al::H)∧Ow (RI .i64) 2 ak al v0 ah) ab ⟨_,_,_,Z,_,it0,gr,f.k Z,m,o0⟩ ?_
  clear ab f m
  rintro ag am an ao a w ⟨ah,ai,aj,rfl,ak,al,ap,f,m,aq⟩
  refine Af (Ac ?_)
  refine Ab f Z fun a f=>Ab f Z fun a f=>Bw 0 m aq Z Tryz.underlying31 f Z Z fun a f=>Ai f Z Z AA fun a f=>Aa ?_
  rcases Ae an with⟨ar,an⟩|⟨ar,an⟩
  ·refine Ak f Z ar ?_
   refine Al ?_
   refine Af (Aj (Ac ?_))
   refine Ab f Z fun a f=>Ab f Z fun a f=>Ab f Z fun a f=> ?_
   obtain⟨au,av,an⟩:=bind_some an
   refine AV 0 m aq Z T31 f Z Z Z av fun aw a ax f=>AH 0 m aq Z Tryz.sizeOf2 f Z Z ax av Z Z Z fun ay w m az=>Aa (Ah ?_)
   refine Ab f Z fun a f=>Ai f Z Z As fun a f=>Ad f Z fun a f=>Aa (Ah ?_)
   refine Ab f Z fun a f=>Ai f Z Z As fun a f=>Ad f Z fun a f=>Aa ?_
   obtain rfl:=sj an
   exact⟨_,Z,_,_,_,Z,_,ay,ap,f.k Z,m,az⟩
  ·refine Ag f Z ar ?_
   refine Aw Z ?_
   obtain rfl:=sj an
   obtain rfl:=ao _ rfl
   exact⟨_,_,Z,_,al,ap,f.k Z,m,aq⟩
 ·rintro a w ⟨ac,ad,rfl,ae,af,aA,f,m,aB⟩
  refine Ac ?_
  refine Ab f Z fun a f=>Ad f Z fun a f=>Aa ?_
  refine Ao ?_
  obtain rfl:=sj hd
  exact⟨[(.int .i64 ad)],⟨f.get _ _ Z,trivial⟩,f.defers,_,[af],aA,m,_,Z,Z,aB⟩
theorem Wk.E {W w:World}{G:GH}{H:List Itm}{v0:Value}{it0:Itm}{x0:(List (List Int))}{x1:Int}(m:Mem W G w (it0::H))(o0:Ow2 (RI .i64) 31 2 G it0 v0 x0){y:Int×((List (List Int)))}(hd:D.E x0 x1=some y):
  Calls Tryz.prog 64 #[v0,(.int .i64 x1)] w (Res W G H (fun G' Ho v=>∃i0:Itm,Ho=[i0]∧v=(.int .i64 y.1)∧Ow2 (RI .i64) 31 2 G' i0 v0 y.2)):=by
 refine Aq (args:=[v0,(.int .i64 x1)]) (N:=19) [.tmp 4] Tryz.func64 Z Z (Nat.le_of_ble_eq_true Z) Z fun a f=> ?_
 unfold D.E at hd
 refine Ac ?_
 refine Ad f Z fun a f=>Aa (Af (Ac ?_))
 refine Ad f Z fun a f=>Aa ?_
 obtain⟨aa,ab,hd⟩:=bind_some hd
 refine AF (fun a w=>∃ac:List (List Int),∃ad:Int,(ac,ad)=aa∧∃(ae:GH) (af:Itm),GLe G ae∧Fr a 19 [(1,(.int .i64 ad))]∧Mem W ae w (af::H)∧Ow2 (RI .i64) 31 2 ae af v0 ac) ?_ ?_
 ·refine Aj ?_
  refine AC (fun ag a w=>∃ah:List (List Int),∃ai:Int,∃aj:Int,(ah,ai,aj)=ag∧∃(ak:GH) (al:Itm),GLe G ak∧Fr a 19 [(0,v0),(1,(.int .i64 ai)),(5,(.int .i64 aj))]∧Mem W ak w (al::H)∧Ow2 (RI .i64) 31 2 ak al v0 ah) ab ⟨_,_,_,Z,_,it0,gr,f.k Z,m,o0⟩ ?_
  clear ab f m
  rintro ag am an ao a w ⟨ah,ai,aj,rfl,ak,al,ap,f,m,aq⟩
  refine Af (Ac ?_)
  refine Ab f Z fun a f=>Ab f Z fun a f=>l_own2_len 0 m aq Z Tryz.underlying27 f Z Z fun a f=>Ai f Z Z AA fun a f=>Aa ?_
  rcases Ae an with⟨ar,an⟩|⟨ar,an⟩
  ·refine Ak f Z ar ?_
   refine Al ?_
   refine Af (Aj (Ah ?_))
   refine Ab f Z fun a f=>Ab f Z fun a f=> ?_
   obtain⟨au,av,an⟩:=bind_some an
   refine l_own2_at 0 m aq Z T27 f Z Z Z av fun aw a ax f=>l_own2_load 0 m aq Z AO f Z Z ax av fun ay a az f=>Ab f Z fun a f=> ?_
   obtain⟨aA,aB,an⟩:=bind_some an
   refine AK f Z Tryz.call102 (Ow2.callAt aq (RI.mono _) m av az (fun inn Hs m oi=>Wk.k m oi aB)) fun aC aD aE w aF m aG a f=> ?_
   obtain⟨aH,rfl,rfl,aI⟩:=aG
   refine Ad f Z fun a f=>Aa (Ah ?_)
   refine Ab f Z fun a f=>Ai f Z Z As fun a f=>Ad f Z fun a f=>Aa ?_
   obtain rfl:=sj an
   exact⟨_,Z,_,_,_,Z,_,aH,(gt ap aF),f.k Z,m,aI⟩
  ·refine Ag f Z ar ?_
   refine Aw Z ?_
   obtain rfl:=sj an
   obtain rfl:=ao _ rfl
   exact⟨_,_,Z,_,al,ap,f.k Z,m,aq⟩
 ·rintro a w ⟨ac,ad,rfl,ae,af,aJ,f,m,aK⟩
  refine Ac ?_
  refine Ab f Z fun a f=>Ad f Z fun a f=>Aa ?_
  refine Ao ?_
  obtain rfl:=sj hd
  exact⟨[(.int .i64 ad)],⟨f.get _ _ Z,trivial⟩,f.defers,_,[af],aJ,m,_,Z,Z,aK⟩
theorem Wk.H0 {W w:World}{G:GH}{H:List Itm}{v0_0:Value}{it0_0:Itm}{x0_0:(List (List Int))}{x1:Int}(m:Mem W G w (it0_0::H))(o0_0:Ow2 (RI .i64) 31 2 G it0_0 v0_0 x0_0){y:Int×((List (List Int)))}(hd:D.H0 x0_0 x1=some y):
  Calls Tryz.prog 26 #[(.agg #[v0_0]),(.int .i64 x1)] w (Res W G H (fun G' Ho v=>∃i0:Itm,Ho=[i0]∧v=(.int .i64 y.1)∧Ow2 (RI .i64) 31 2 G' i0 v0_0 y.2)):=by
 refine Aq (args:=[(.agg #[v0_0]),(.int .i64 x1)]) (N:=10) [.tmp 4] Tryz.func26 Z Z (Nat.le_of_ble_eq_true Z) Z fun a f=> ?_
 unfold D.H0 at hd
 refine Ac ?_
 refine Bm (cs:=[v0_0]) m f Z Z Z fun aa w a m f=>Ad f Z fun a f=>Aa (Ac ?_)
 refine Bk Tryz.underlying29 Z Tryz.sizeOf27 f Z fun a f=>Ay 0 0 m AX f Z Z Z Z fun a f=>Ab f Z fun a f=> ?_
 have m:=m.front 1 rfl
 obtain⟨ab,ac,hd⟩:=bind_some hd
 refine AK f Z Tryz.call64 (Wk.E m o0_0 ac) fun ad ae af w ag m ah a f=> ?_
 obtain⟨ai,rfl,rfl,aj⟩:=ah
 refine Ad f Z fun a f=>Aa (Ac ?_)
 refine Ab f Z fun a f=>Ad f Z fun a f=>Aa ?_
 refine Ao ?_
 have m:=m.eraseAt 1
 obtain rfl:=sj hd
 exact⟨[(.int .i64 ab.1)],⟨f.get _ _ Z,trivial⟩,f.defers,_,[ai],ag,m,_,Z,Z,aj⟩
theorem Wk.T0 {W w:World}{G:GH}{H:List Itm}{v0_0:Value}{it0_0:Itm}{v0_1:Value}{it0_1:Itm}{x0_0:(List (List Int))}{x0_1:(List (List Int))}{x1:Int}(m:Mem W G w (it0_0::it0_1::H))(o0_0:Ow2 (RI .i64) 31 2 G it0_0 v0_0 x0_0)(o0_1:Ow2 (RI .i64) 31 2 G it0_1 v0_1 x0_1){y:Int×((List (List Int)))×((List (List Int)))}(hd:D.T0 x0_0 x0_1 x1=some y):
  Calls Tryz.prog 27 #[(.agg #[v0_0,v0_1]),(.int .i64 x1)] w (Res W G H (fun G' Ho v=>∃i0:Itm,∃i1:Itm,Ho=[i0,i1]∧v=(.int .i64 y.1)∧Ow2 (RI .i64) 31 2 G' i0 v0_0 y.2.1∧Ow2 (RI .i64) 31 2 G' i1 v0_1 y.2.2)):=by
 refine Aq (args:=[(.agg #[v0_0,v0_1]),(.int .i64 x1)]) (N:=14) [.tmp 4] Tryz.func27 Z Z (Nat.le_of_ble_eq_true Z) Z fun a f=> ?_
 unfold D.T0 at hd
 refine Ac ?_
 refine Bm (cs:=[v0_0,v0_1]) m f Z Z Z fun aa w a m f=>Ad f Z fun a f=>Aa (Ac ?_)
 refine Bk Tryz.underlying36 Z Tryz.sizeOf27 f Z fun a f=>Ay 0 0 m AX f Z Z Z Z fun a f=>Ab f Z fun a f=> ?_
 have m:=m.front 1 rfl
 obtain⟨ab,ac,hd⟩:=bind_some hd
 refine AK f Z Tryz.call64 (Wk.E m o0_0 ac) fun ad ae af w ag m ah a f=> ?_
 obtain⟨ai,rfl,rfl,aj⟩:=ah
 have o0_1:=od2 ag o0_1
 refine Ad f Z fun a f=>Aa (Ac ?_)
 refine Bk Tryz.underlying36 Z Tryz.sizeOf27 f Z fun a f=>Ay 1 1 m AX f Z Z Z Z fun a f=>Ab f Z fun a f=> ?_
 have m:=m.front 2 rfl
 obtain⟨ak,al,hd⟩:=bind_some hd
 refine AK f Z Tryz.call64 (Wk.E m o0_1 al) fun am an ao w ap m aq a f=> ?_
 obtain⟨ar,rfl,rfl,au⟩:=aq
 have aj:=od2 ap aj
 refine Ad f Z fun a f=>Aa (Ac ?_)
 refine Ab f Z fun a f=>Ad f Z fun a f=>Aa ?_
 refine Ao ?_
 have m:=m.front 1 rfl
 have m:=m.eraseAt 2
 obtain rfl:=sj hd
 exact⟨[(.int .i64 ak.1)],⟨f.get _ _ Z,trivial⟩,f.defers,_,[ai,ar],(gt ag ap),m,_,_,Z,Z,aj,au⟩
theorem Wk.p {W w:World}{G:GH}{H:List Itm}{v0:Value}{x0:(List Int)}{x1:Int}(m:Mem W G w (H))(h0:RSl (RI .i64) G v0 x0){y:Int}(hd:D.p x0 x1=some y):
  Calls Tryz.prog 103 #[v0,(.int .i64 x1)] w (Res W G H (fun _ Ho v=>Ho=[]∧v=(.int .i64 y))):=by
 refine Aq (args:=[v0,(.int .i64 x1)]) (N:=21) [.tmp 4] Tryz.func103 Z Z (Nat.le_of_ble_eq_true Z) Z fun a f=> ?_
 unfold D.p at hd
 refine Ac ?_
 refine Ad f Z fun a f=>Aa (Af (Ac ?_))
 refine Ad f Z fun a f=>Aa ?_
 obtain⟨aa,ab,hd⟩:=bind_some hd
 refine AF (fun a w=>∃q_20':Int,aa= .inl q_20'∧∃ac:Int,ac=q_20'∧∃(ad:GH),GLe G ad∧Fr a 21 [(1,(.int .i64 ac))]∧Mem W ad w (H)) ?_ ?_
 ·refine Aj ?_
  refine AC (fun ae a w=>∃af:Int,∃ag:Int,(af,ag)=ae∧∃(ah:GH),GLe G ah∧Fr a 21 [(0,v0),(1,(.int .i64 af)),(5,(.int .i64 ag))]∧Mem W ah w (H)) ab ⟨_,_,Z,_,gr,f.k Z,m⟩ ?_
  clear ab f m
  rintro ae ai aj ak a w ⟨af,ag,rfl,ah,al,f,m⟩
  have h0:=rd1 al h0
  refine Af (Ac ?_)
  refine Ab f Z fun a f=>Ab f Z fun a f=>AT Tryz.underlying31 f Z Z h0 fun a f=>Ai f Z Z AA fun a f=>Aa ?_
  rcases Ae aj with⟨am,aj⟩|⟨am,aj⟩
  ·refine Ak f Z am ?_
   refine Al ?_
   refine Af (Aj (Af (Ac ?_)))
   refine Ab f Z fun a f=>Ab f Z fun a f=> ?_
   obtain⟨an,ao,aj⟩:=bind_some aj
   refine AZ T31 f Z Z Z h0 ao fun ap aq a ar au f=> ?_
   subst au
   refine Au m Pl2 f Z Z ar fun a f=>Ab f Z fun a f=>Ai f Z Z Cs fun a f=>Aa ?_
   rcases Ae aj with⟨av,aj⟩|⟨av,aj⟩
   ·refine Ak f Z av ?_
    refine Ac ?_
    refine Ad f Z fun a f=>Aa ?_
    refine Ao ?_
    obtain rfl:=sj aj
    obtain rfl:=ak _ rfl
    obtain rfl:=sj hd
    exact⟨[(.int .i64 (-1))],⟨f.get _ _ Z,trivial⟩,f.defers,_,[],al,m,Z,Z⟩
   ·refine Ag f Z av ?_
    refine Al ?_
    refine Ah ?_
    refine Ab f Z fun a f=>Ai f Z Z As fun a f=>Ad f Z fun a f=>Aa (Ah ?_)
    refine Ab f Z fun a f=>Ai f Z Z As fun a f=>Ad f Z fun a f=>Aa ?_
    obtain rfl:=sj aj
    exact⟨_,Z,_,_,Z,_,al,f.k Z,m⟩
  ·refine Ag f Z am ?_
   refine Aw Z ?_
   obtain rfl:=sj aj
   obtain rfl:=ak _ rfl
   exact⟨_,Z,_,Z,_,al,f.k Z,m⟩
 ·rintro a w ⟨_,rfl,ac,rfl,ad,aw,f,m⟩
  refine Ac ?_
  refine Ab f Z fun a f=>Ad f Z fun a f=>Aa ?_
  refine Ao ?_
  obtain rfl:=sj hd
  exact⟨[(.int .i64 ac)],⟨f.get _ _ Z,trivial⟩,f.defers,_,[],aw,m,Z,Z⟩
theorem Wk.d0 {W w:World}{G:GH}{H:List Itm}{v0:Value}{x0:(List (List Int))}{x1:Int}(m:Mem W G w (H))(h0:RSl (RSl (RI .i64)) G v0 x0){y:Int}(hd:D.d0 x0 x1=some y):
  Calls Tryz.prog 65 #[v0,(.int .i64 x1)] w (Res W G H (fun _ Ho v=>Ho=[]∧v=(.int .i64 y))):=by
 refine Aq (args:=[v0,(.int .i64 x1)]) (N:=21) [.tmp 4] Tryz.func65 Z Z (Nat.le_of_ble_eq_true Z) Z fun a f=> ?_
 unfold D.d0 at hd
 refine Ac ?_
 refine Ad f Z fun a f=>Aa (Af (Ac ?_))
 refine Ad f Z fun a f=>Aa ?_
 obtain⟨aa,ab,hd⟩:=bind_some hd
 refine AF (fun a w=>∃q_34':Int,aa= .inl q_34'∧∃ac:Int,ac=q_34'∧∃(ad:GH),GLe G ad∧Fr a 21 [(1,(.int .i64 ac))]∧Mem W ad w (H)) ?_ ?_
 ·refine Aj ?_
  refine AC (fun ae a w=>∃af:Int,∃ag:Int,(af,ag)=ae∧∃(ah:GH),GLe G ah∧Fr a 21 [(0,v0),(1,(.int .i64 af)),(5,(.int .i64 ag))]∧Mem W ah w (H)) ab ⟨_,_,Z,_,gr,f.k Z,m⟩ ?_
  clear ab f m
  rintro ae ai aj ak a w ⟨af,ag,rfl,ah,al,f,m⟩
  have h0:=rd2 al h0
  refine Af (Ac ?_)
  refine Ab f Z fun a f=>Ab f Z fun a f=>AT Tryz.underlying27 f Z Z h0 fun a f=>Ai f Z Z AA fun a f=>Aa ?_
  rcases Ae aj with⟨am,aj⟩|⟨am,aj⟩
  ·refine Ak f Z am ?_
   refine Al ?_
   refine Af (Aj (Ac ?_))
   refine Ab f Z fun a f=>Ab f Z fun a f=> ?_
   obtain⟨an,ao,aj⟩:=bind_some aj
   refine AZ T27 f Z Z Z h0 ao fun ap aq a ar au f=>Au m AO f Z Z ar fun a f=>Ab f Z fun a f=> ?_
   obtain⟨av,aw,aj⟩:=bind_some aj
   refine Bc f Z Tryz.call103 (Wk.p m au aw) fun ax w ay m a f=> ?_
   have h0:=rd2 ay h0
   have ar:=At.mono ay ar
   have au:=rd1 ay au
   refine Ad f Z fun a f=>Aa (Ac ?_)
   refine Ab f Z fun a f=>Ai f Z Z AA fun a f=>Aa ?_
   rcases Ae aj with⟨az,aj⟩|⟨az,aj⟩
   ·refine Ak f Z az ?_
    refine Ac ?_
    refine Ad f Z fun a f=>Aa ?_
    refine Ao ?_
    obtain rfl:=sj aj
    obtain rfl:=ak _ rfl
    obtain rfl:=sj hd
    exact⟨[(.int .i64 (-1))],⟨f.get _ _ Z,trivial⟩,f.defers,_,[],(gt al ay),m,Z,Z⟩
   ·refine Ag f Z az ?_
    refine Al ?_
    refine Ah ?_
    refine Ab f Z fun a f=>Ai f Z Z As fun a f=>Ad f Z fun a f=>Aa ?_
    obtain rfl:=sj aj
    exact⟨_,Z,_,_,Z,_,(gt al ay),f.k Z,m⟩
  ·refine Ag f Z am ?_
   refine Aw Z ?_
   obtain rfl:=sj aj
   obtain rfl:=ak _ rfl
   exact⟨_,Z,_,Z,_,al,f.k Z,m⟩
 ·rintro a w ⟨_,rfl,ac,rfl,ad,aA,f,m⟩
  refine Ac ?_
  refine Ab f Z fun a f=>Ad f Z fun a f=>Aa ?_
  refine Ao ?_
  obtain rfl:=sj hd
  exact⟨[(.int .i64 ac)],⟨f.get _ _ Z,trivial⟩,f.defers,_,[],aA,m,Z,Z⟩
theorem Wk.S {W w:World}{G:GH}{H:List Itm}{v0_0:Value}{v0_1:Value}{x0_0:(List (List Int))}{x0_1:(List (List Int))}{x1:Int}(m:Mem W G w (H))(h0_0:RSl (RSl (RI .i64)) G v0_0 x0_0)(h0_1:RSl (RSl (RI .i64)) G v0_1 x0_1){y:Int}(hd:D.S x0_0 x0_1 x1=some y):
  Calls Tryz.prog 28 #[(.agg #[v0_0,v0_1]),(.int .i64 x1)] w (Res W G H (fun _ Ho v=>Ho=[]∧v=(.int .i64 y))):=by
 refine Aq (args:=[(.agg #[v0_0,v0_1]),(.int .i64 x1)]) (N:=18) [.tmp 4] Tryz.func28 Z Z (Nat.le_of_ble_eq_true Z) Z fun a f=> ?_
 unfold D.S at hd
 refine Ac ?_
 refine Bm (cs:=[v0_0,v0_1]) m f Z Z Z fun aa w a m f=>Ad f Z fun a f=>Aa (Ac ?_)
 refine Bk Tryz.underlying36 Z Tryz.sizeOf27 f Z fun a f=>Ay 0 0 m AX f Z Z Z Z fun a f=>Ab f Z fun a f=> ?_
 obtain⟨ab,ac,hd⟩:=bind_some hd
 refine Bc f Z Tryz.call65 (Wk.d0 m h0_0 ac) fun ad w ae m a f=> ?_
 have h0_0:=rd2 ae h0_0
 have h0_1:=rd2 ae h0_1
 refine Ad f Z fun a f=>Aa (Af (Ac ?_))
 refine Ab f Z fun a f=>Ai f Z Z AA fun a f=>Aa ?_
 rcases Ae hd with⟨af,hd⟩|⟨af,hd⟩
 ·refine Ak f Z af ?_
  refine Ac ?_
  refine Ad f Z fun a f=>Aa ?_
  refine Ao ?_
  have m:Mem W ad w H:=Mem.drop (H':=[Itm.box aa 36 [v0_0,v0_1]]) m
  obtain rfl:=sj hd
  exact⟨[(.int .i64 (-1))],⟨f.get _ _ Z,trivial⟩,f.defers,_,[],ae,m,Z,Z⟩
 ·refine Ag f Z af ?_
  refine Al ?_
  refine Ac ?_
  refine Bk Tryz.underlying36 Z Tryz.sizeOf27 f Z fun a f=>Ay 0 1 m AX f Z Z Z Z fun a f=>Ab f Z fun a f=> ?_
  obtain⟨ag,ah,hd⟩:=bind_some hd
  refine Bc f Z Tryz.call65 (Wk.d0 m h0_1 ah) fun ai w aj m a f=> ?_
  have h0_0:=rd2 aj h0_0
  have h0_1:=rd2 aj h0_1
  refine Ad f Z fun a f=>Aa (Af (Ac ?_))
  refine Ab f Z fun a f=>Ai f Z Z AA fun a f=>Aa ?_
  rcases Ae hd with⟨ak,hd⟩|⟨ak,hd⟩
  ·refine Ak f Z ak ?_
   refine Ac ?_
   refine Ad f Z fun a f=>Aa ?_
   refine Ao ?_
   have m:Mem W ai w H:=Mem.drop (H':=[Itm.box aa 36 [v0_0,v0_1]]) m
   obtain rfl:=sj hd
   exact⟨[(.int .i64 (-1))],⟨f.get _ _ Z,trivial⟩,f.defers,_,[],(gt ae aj),m,Z,Z⟩
  ·refine Ag f Z ak ?_
   refine Al ?_
   refine Ac ?_
   refine Ab f Z fun a f=>Ad f Z fun a f=>Aa ?_
   refine Ao ?_
   have m:Mem W ai w H:=Mem.drop (H':=[Itm.box aa 36 [v0_0,v0_1]]) m
   obtain rfl:=sj hd
   exact⟨[(.int .i64 ag)],⟨f.get _ _ Z,trivial⟩,f.defers,_,[],(gt ae aj),m,Z,Z⟩
end Go.Proofs.YtkffjeaefgfnnaaGreatDoor

set_option maxRecDepth 100000
namespace Go.Proofs.YtkffjeaefgfnnaaGreatDoor
open Go Go.Sx
theorem Ag44 :Agg Tryz.prog 44 1:=⟨Tryz.isAgg44,Tryz.sizeOf44⟩
set_option maxHeartbeats 1000000 in
theorem Wk.k1 {W w:World}{G:GH}{H:List Itm}{v0_0:Value}{x0_0:(List (List Int))}(hW:CW W)(m:Mem W G w (H))(h0_0:RSl (RSl (RI .i64)) G v0_0 x0_0){y:Bool}(hd:D.k1 x0_0=some y):
  Calls Tryz.prog 4 #[(.agg #[v0_0])] w (Res W G H (fun _ Ho v=>Ho=[]∧v=(.bool y))):=by
 refine Aq (args:=[(.agg #[v0_0])]) (N:=96) [.tmp 2] Tryz.func4 Z Z (Nat.le_of_ble_eq_true Z) Z fun a f=> ?_
 unfold D.k1 at hd
 refine Ac ?_
 refine Bm (cs:=[v0_0]) m f Z Z Z fun aa w a m f=>Ad f Z fun a f=>Aa (Ac ?_)
 refine Ad f Z fun a f=>Aa (Ac ?_)
 refine AE 0 0 (ds:=[v0_0]) m Ag44 f Z Z Z Z Z fun a f=>Ab f Z fun a f=> ?_
 obtain⟨ab,ac,hd⟩:=bind_some hd
 refine Bc f Z Tryz.call21 (Wk.a1 m h0_0 ac) fun ad w ae m a f=> ?_
 have h0_0:=rd2 ae h0_0
 refine Ad f Z fun a f=>Aa (Af (Ac ?_))
 refine Ab f Z fun a f=>Ai f Z Z AA fun a f=>Aa ?_
 rcases Ae hd with⟨af,hd⟩|⟨af,hd⟩
 ·refine Ak f Z af ?_
  refine Ac ?_
  refine Ad f Z fun a f=>Aa ?_
  refine Ao ?_
  have m:Mem W ad w H:=Mem.drop (H':=[Itm.box aa 44 [v0_0]]) m
  obtain rfl:=sj hd
  exact⟨[(.bool true)],⟨f.get _ _ Z,trivial⟩,f.defers,_,[],ae,m,Z,Z⟩
 ·refine Ag f Z af ?_
  refine Al ?_
  refine Ac ?_
  refine AE 0 0 (ds:=[v0_0]) m Ag44 f Z Z Z Z Z fun a f=> ?_
  obtain⟨ag,ah,hd⟩:=bind_some hd
  refine AK f Z Tryz.call23 (Wk.x m h0_0 ah) fun ai aj ak w al m am a f=> ?_
  obtain⟨an,ao,rfl,rfl,ap⟩:=am
  have h0_0:=rd2 al h0_0
  obtain⟨aq,ar,m,au⟩:=Ow2.stamp (RI.mono _) ap m
  have h0_0:=rd2 ar h0_0
  obtain⟨av,aw,hd⟩:=bind_some hd
  refine AK f Z Tryz.call22 (Wk.j0 m au aw) fun ax ay az w aA m aB a f=> ?_
  obtain⟨aC,aD,aE,aF,rfl,rfl,aG,aH⟩:=aB
  have h0_0:=rd2 aA h0_0
  have au:=rd2 aA au
  refine Ab f Z fun a f=>l_o f (A9 (f.eval Z) Z) fun a f=>l_o f (A9 (f.eval Z) Z) fun a f=>Bp (cs:=[(.slice none 0 0),(.slice none 0 0)]) Tryz.zeroValue36 m f Z Z fun aI w a m f=>AG 0 0 (ds:=[aC,aE]) m Tryz.sizeOf36 f Z Z Z (Av (Ow.one1 1 m aG Z) (Av (Ow.one1 2 m aH Z) AS)) Z (Nat.le_of_ble_eq_true Z) Z fun w m=>Ad f Z fun a f=>Aa (Ac ?_)
  refine AE 3 0 (ds:=[v0_0]) m Ag44 f Z Z Z Z Z fun a f=> ?_
  obtain⟨aJ,aK,hd⟩:=bind_some hd
  refine AK f Z Tryz.call23 (Wk.x m h0_0 aK) fun aL aM aN w aO m aP a f=> ?_
  obtain⟨aQ,aR,rfl,rfl,aS⟩:=aP
  have h0_0:=rd2 aO h0_0
  have aG:=Ow.mono (RSl.mono (RI.mono _)) aO aG
  have aH:=Ow.mono (RSl.mono (RI.mono _)) aO aH
  refine Bp (cs:=[(.slice none 0 0)]) Tryz.zeroValue29 m f Z Z fun aT w a m f=>AG 0 0 (ds:=[aQ]) m Tryz.sizeOf29 f Z Z Z (Av (Ow2.one1 1 m aS Z) AS) Z (Nat.le_of_ble_eq_true Z) Z fun w m=>Aa (Ac ?_)
  refine AE 0 0 (ds:=[aQ]) m Bo f Z Z Z Z Z fun a f=> ?_
  obtain⟨aU,aV,hd⟩:=bind_some hd
  refine AK f Z Tryz.call11 (Ow2.lendCall (RI.mono _) 1 aS m Z (fun aW aX m aY=>Wk.K hW m aY aV) (fun _ G' _ _ ⟨a0,a1,a2,a3,e1,e2,o0,o1⟩=>⟨a0,a1,a2,a3,e1,e2,Ow2.free (RI.free _) G' o0,Ow2.free (RI.free _) G' o1⟩)) fun aZ a4 a5 w a6 m a7 a f=> ?_
  obtain⟨a8,a9,ba,bb,rfl,rfl,bc,bd⟩:=a7
  have h0_0:=rd2 a6 h0_0
  have aS:=od2 a6 aS
  have aG:=Ow.mono (RSl.mono (RI.mono _)) a6 aG
  have aH:=Ow.mono (RSl.mono (RI.mono _)) a6 aH
  refine Ab f Z fun a f=>l_o f (A9 (f.eval Z) Z) fun a f=>l_o f (A9 (f.eval Z) Z) fun a f=>Bp (cs:=[(.slice none 0 0),(.slice none 0 0)]) Tryz.zeroValue36 m f Z Z fun be w a m f=>AG 0 0 (ds:=[a8,ba]) m Tryz.sizeOf36 f Z Z Z (Av (Ow2.one1 1 m bc Z) (Av (Ow2.one1 2 m bd Z) AS)) Z (Nat.le_of_ble_eq_true Z) Z fun w m=>Ad f Z fun a f=>Aa (Af (Ac ?_))
  refine AE 0 0 (ds:=[a8,ba]) m BG f Z Z Z Z Z fun a f=>AE 5 0 (ds:=[aC,aE]) m BG f Z Z Z Z Z fun a f=> ?_
  obtain⟨bf,bg,hd⟩:=bind_some hd
  refine AK f Z Tryz.call24 (Ow2.lendCall (RI.mono _) 1 bc m Z (fun bh bi m bj=>(Ow2.lendCall (RI.mono _) 1 (od2 bi bd) m Z (fun bk bl m bm=>(Ow.lendCall (RSl.mono (RI.mono _)) 4 (Ow.mono (RSl.mono (RI.mono _)) bl (Ow.mono (RSl.mono (RI.mono _)) bi aG)) m Z (fun bn bo m bp=>(Ow.lendCall (RSl.mono (RI.mono _)) 4 (Ow.mono (RSl.mono (RI.mono _)) bo (Ow.mono (RSl.mono (RI.mono _)) bl (Ow.mono (RSl.mono (RI.mono _)) bi aH))) m Z (fun bq br m bs=>Wk.C m (rd2 br (rd2 bo (rd2 bl bj))) (rd2 br (rd2 bo bm)) (rd2 br bp) bs bg) (fun _ _ _ _ h=>h))) (fun _ _ _ _ h=>h))) (fun _ _ _ _ h=>h))) (fun _ _ _ _ h=>h)) fun bt bu bv w bw m bx a f=> ?_
  obtain⟨rfl,rfl⟩:=bx
  have h0_0:=rd2 bw h0_0
  have bc:=od2 bw bc
  have bd:=od2 bw bd
  have aS:=od2 bw aS
  have aG:=Ow.mono (RSl.mono (RI.mono _)) bw aG
  have aH:=Ow.mono (RSl.mono (RI.mono _)) bw aH
  refine l_o f (Bs (f.eval Z)) fun a f=>Ab f Z fun a f=> ?_
  refine BA 4 (fun a w=>∃bz,GLe bu bz∧Mem W bz w (Itm.box be 36 [a8,ba]::a9::bb::Itm.box aT 29 [aQ]::aR::Itm.box aI 36 [aC,aE]::aD::aF::Itm.box aa 44 [v0_0]::H)∧Fr a 96 [(0,(.agg #[v0_0])),(1,(.pointer (some ⟨aa,0,none⟩))),(3,(.int .i64 ab)),(4,(.pointer (some ⟨aI,0,none⟩))),(5,(.bool av.2.2)),(6,(.pointer (some ⟨aT,0,none⟩))),(7,(.pointer (some ⟨be,0,none⟩))),(8,(.bool aU.2.2)),(32,(.agg #[a8,ba])),(33,(.agg #[aC,aE])),(34,(.bool bf)),(35,(.bool (!bf))),(36,(.bool (!bf))),(40,(.bool ((!bf)||(aU.2.2 !=av.2.2))))]) ?_ ?_
  ·rcases Bool.eq_false_or_eq_true (!bf) with bA|bA
   ·refine AB f bA fun a f=> ?_
    refine AB f bA fun a f=>AB f bA fun a f=>l_o f (A3 (f.eval Z) bA (f.eval Z)) fun a f=> ?_
    exact⟨_,gr,m,f.weak ⟨Z,Z,Z,Z,Z,Z,Z,Z,Z,Z,Z,Z,Z,by rw[bA];rfl,trivial⟩⟩
   ·refine Az f bA ?_
    refine Ab f Z fun a f=>Az f bA ?_
    refine Ab f Z fun a f=>Az f bA ?_
    refine l_o f (EJ (f.eval Z) (f.eval Z) Tryz.underlying4) fun a f=>l_o f (A2 (f.eval Z) bA (f.eval Z)) fun a f=> ?_
    exact⟨_,gr,m,f.weak ⟨Z,Z,Z,Z,Z,Z,Z,Z,Z,Z,Z,Z,Z,by rw[bA];rfl,trivial⟩⟩
  ·rintro a w ⟨bz,bB,m,f⟩
   have h0_0:=rd2 bB h0_0
   have bc:=od2 bB bc
   have bd:=od2 bB bd
   have aS:=od2 bB aS
   have aG:=Ow.mono (RSl.mono (RI.mono _)) bB aG
   have aH:=Ow.mono (RSl.mono (RI.mono _)) bB aH
   refine Aa ?_
   rcases Ae hd with⟨bC,hd⟩|⟨bC,hd⟩
   ·refine Ak f Z bC ?_
    refine Ac ?_
    refine Ad f Z fun a f=>Aa ?_
    refine Ao ?_
    have m:Mem W bz w H:=Mem.drop (H':=[Itm.box be 36 [a8,ba],a9,bb,Itm.box aT 29 [aQ],aR,Itm.box aI 36 [aC,aE],aD,aF,Itm.box aa 44 [v0_0]]) m
    obtain rfl:=sj hd
    exact⟨[(.bool false)],⟨f.get _ _ Z,trivial⟩,f.defers,_,[],(gt ae (gt al (gt ar (gt aA (gt aO (gt a6 (gt bw bB))))))),m,Z,Z⟩
   ·refine Ag f Z bC ?_
    refine Al ?_
    refine Af (Af ?_)
    refine AY 5 AI (by kernel_rfl) m ?_
    refine B6 (i:=0) (ds:=[aQ]) 5 3 Bo Z Z Z Z (by kernel_rfl) Z f Z Z Z fun a f=>B6 (i:=1) (ds:=[v0_0]) 5 8 Ag44 Z Z Z Z (by kernel_rfl) Z f Z Z Z fun a f=>Br (i:=2) Z (by kernel_rfl) Z fun bD w bE m bF bF=> ?_
    have h0_0:=rd2 bE h0_0
    have bc:=od2 bE bc
    have bd:=od2 bE bd
    have aS:=od2 bE aS
    have aG:=Ow.mono (RSl.mono (RI.mono _)) bE aG
    have aH:=Ow.mono (RSl.mono (RI.mono _)) bE aH
    obtain⟨bG,bH,hd⟩:=bind_some hd
    refine AK f Z Tryz.call23 (Wk.x m h0_0 bH) fun bI bJ bK w bL m bM a f=> ?_
    obtain⟨bN,bO,rfl,rfl,bP⟩:=bM
    have h0_0:=rd2 bL h0_0
    have bc:=od2 bL bc
    have bd:=od2 bL bd
    have aS:=od2 bL aS
    have aG:=Ow.mono (RSl.mono (RI.mono _)) bL aG
    have aH:=Ow.mono (RSl.mono (RI.mono _)) bL aH
    refine Aa ?_
    refine bF bJ [bO] _ _ bL m ?_
    refine Br (i:=3) Z (by kernel_rfl) Z fun bQ w bR m bS bS=> ?_
    have h0_0:=rd2 bR h0_0
    have bP:=od2 bR bP
    have bc:=od2 bR bc
    have bd:=od2 bR bd
    have aS:=od2 bR aS
    have aG:=Ow.mono (RSl.mono (RI.mono _)) bR aG
    have aH:=Ow.mono (RSl.mono (RI.mono _)) bR aH
    obtain⟨bT,bU,hd⟩:=bind_some hd
    refine AK f Z Tryz.call25 (Ow2.lendCall (RI.mono _) 5 aS m Z (fun bV bW m bX=>(Ow2.lendCall (RI.mono _) 0 (od2 bW bP) m Z (fun bY bZ m b0=>Wk.v0 m (rd2 bZ bX) b0 bU) (fun _ _ _ _ h=>h))) (fun _ _ _ _ h=>h)) fun b1 b2 b3 w b4 m b5 a f=> ?_
    obtain⟨rfl,rfl⟩:=b5
    have h0_0:=rd2 b4 h0_0
    have bP:=od2 b4 bP
    have bc:=od2 b4 bc
    have bd:=od2 b4 bd
    have aS:=od2 b4 aS
    have aG:=Ow.mono (RSl.mono (RI.mono _)) b4 aG
    have aH:=Ow.mono (RSl.mono (RI.mono _)) b4 aH
    refine Aa ?_
    refine bS b2 [bO] _ _ b4 m ?_
    refine q_p 4 5 Z f (fun _=>Bs (f.eval Z)) fun a f=>AU fun b6 w b7 m=> ?_
    have h0_0:=rd2 b7 h0_0
    have bP:=od2 b7 bP
    have bc:=od2 b7 bc
    have bd:=od2 b7 bd
    have aS:=od2 b7 aS
    have aG:=Ow.mono (RSl.mono (RI.mono _)) b7 aG
    have aH:=Ow.mono (RSl.mono (RI.mono _)) b7 aH
    refine Aa ?_
    rcases Ae hd with⟨b8,hd⟩|⟨b8,hd⟩
    ·refine Ak f Z b8 ?_
     refine Ac ?_
     refine Ad f Z fun a f=>Aa ?_
     refine Ao ?_
     have m:Mem W b6 w H:=Mem.drop (H':=[bO,Itm.box be 36 [a8,ba],a9,bb,Itm.box aT 29 [aQ],aR,Itm.box aI 36 [aC,aE],aD,aF,Itm.box aa 44 [v0_0]]) m
     obtain rfl:=sj hd
     exact⟨[(.bool false)],⟨f.get _ _ Z,trivial⟩,f.defers,_,[],(gt ae (gt al (gt ar (gt aA (gt aO (gt a6 (gt bw (gt bB (gt bE (gt bL (gt bR (gt b4 b7)))))))))))),m,Z,Z⟩
    ·refine Ag f Z b8 ?_
     refine Al ?_
     refine Ac ?_
     refine Ad f Z fun a f=>Aa (Ac ?_)
     refine AE 4 0 (ds:=[aQ]) m Bo f Z Z Z Z Z fun a f=>Ab f Z fun a f=> ?_
     have m:Mem W b6 w (aR::bO::Itm.box be 36 [a8,ba]::a9::bb::Itm.box aT 29 [aQ]::Itm.box aI 36 [aC,aE]::aD::aF::Itm.box aa 44 [v0_0]::H):=m.front 5 rfl
     obtain⟨b9,ca,hd⟩:=bind_some hd
     refine AK f Z Tryz.call26 (Wk.H0 m aS ca) fun cb cc cd w ce m cf a f=> ?_
     obtain⟨cg,rfl,rfl,ch⟩:=cf
     have h0_0:=rd2 ce h0_0
     have bP:=od2 ce bP
     have bc:=od2 ce bc
     have bd:=od2 ce bd
     have aG:=Ow.mono (RSl.mono (RI.mono _)) ce aG
     have aH:=Ow.mono (RSl.mono (RI.mono _)) ce aH
     refine Ad f Z fun a f=>Aa (Af (Ac ?_))
     refine Ab f Z fun a f=>Ai f Z Z AA fun a f=>Ab f Z fun a f=> ?_
     obtain⟨ci,cj,hd⟩:=bind_some hd
     refine BA 5 (fun a w=>∃ck,GLe cc ck∧Mem W ck w (cg::bO::Itm.box be 36 [a8,ba]::a9::bb::Itm.box aT 29 [aQ]::Itm.box aI 36 [aC,aE]::aD::aF::Itm.box aa 44 [v0_0]::H)∧Fr a 96 [(0,(.agg #[v0_0])),(1,(.pointer (some ⟨aa,0,none⟩))),(3,(.int .i64 ab)),(4,(.pointer (some ⟨aI,0,none⟩))),(5,(.bool av.2.2)),(6,(.pointer (some ⟨aT,0,none⟩))),(7,(.pointer (some ⟨be,0,none⟩))),(8,(.bool aU.2.2)),(9,(.int .i64 b9.1)),(49,(.int .i64 b9.1)),(50,(.bool (decide (b9.1<0)))),(51,(.bool (decide (b9.1<0)))),(56,(.bool ci))]) ?_ ?_
     ·rcases Ae cj with⟨cl,cj⟩|⟨cl,cj⟩
      ·refine AB f cl fun a f=> ?_
       refine AB f cl fun a f=>AB f cl fun a f=>AB f cl fun a f=>l_o f (A3 (f.eval Z) cl (f.eval Z)) fun a f=> ?_
       obtain rfl:=sj cj
       exact⟨_,gr,m,f.k Z⟩
      ·refine Az f cl ?_
       refine AE 2 0 (ds:=[a8,ba]) m BG f Z Z Z Z Z fun a f=>Az f cl ?_
       refine AE 6 0 (ds:=[aC,aE]) m BG f Z Z Z Z Z fun a f=>Az f cl ?_
       obtain⟨cm,cn,cj⟩:=bind_some cj
       refine AK f Z Tryz.call24 (Ow2.lendCall (RI.mono _) 3 bc m Z (fun co cp m cq=>(Ow2.lendCall (RI.mono _) 3 (od2 cp bd) m Z (fun cr ct m cu=>(Ow.lendCall (RSl.mono (RI.mono _)) 5 (Ow.mono (RSl.mono (RI.mono _)) ct (Ow.mono (RSl.mono (RI.mono _)) cp aG)) m Z (fun cv cw m cx=>(Ow.lendCall (RSl.mono (RI.mono _)) 5 (Ow.mono (RSl.mono (RI.mono _)) cw (Ow.mono (RSl.mono (RI.mono _)) ct (Ow.mono (RSl.mono (RI.mono _)) cp aH))) m Z (fun cy cz m cA=>Wk.C m (rd2 cz (rd2 cw (rd2 ct cq))) (rd2 cz (rd2 cw cu)) (rd2 cz cx) cA cn) (fun _ _ _ _ h=>h))) (fun _ _ _ _ h=>h))) (fun _ _ _ _ h=>h))) (fun _ _ _ _ h=>h)) fun cB cC cD w cE m cF a f=> ?_
       obtain⟨rfl,rfl⟩:=cF
       have h0_0:=rd2 cE h0_0
       have ch:=od2 cE ch
       have bP:=od2 cE bP
       have bc:=od2 cE bc
       have bd:=od2 cE bd
       have aG:=Ow.mono (RSl.mono (RI.mono _)) cE aG
       have aH:=Ow.mono (RSl.mono (RI.mono _)) cE aH
       refine Az f cl ?_
       refine l_o f (Bs (f.eval Z)) fun a f=>l_o f (A2 (f.eval Z) cl (f.eval Z)) fun a f=> ?_
       obtain rfl:=sj cj
       exact⟨_,cE,m,f.k Z⟩
     ·rintro a w ⟨ck,cG,m,f⟩
      have h0_0:=rd2 cG h0_0
      have ch:=od2 cG ch
      have bP:=od2 cG bP
      have bc:=od2 cG bc
      have bd:=od2 cG bd
      have aG:=Ow.mono (RSl.mono (RI.mono _)) cG aG
      have aH:=Ow.mono (RSl.mono (RI.mono _)) cG aH
      refine Ab f Z fun a f=> ?_
      refine BA 4 (fun a w=>∃cH,GLe ck cH∧Mem W cH w (cg::bO::Itm.box be 36 [a8,ba]::a9::bb::Itm.box aT 29 [aQ]::Itm.box aI 36 [aC,aE]::aD::aF::Itm.box aa 44 [v0_0]::H)∧Fr a 96 [(0,(.agg #[v0_0])),(1,(.pointer (some ⟨aa,0,none⟩))),(3,(.int .i64 ab)),(4,(.pointer (some ⟨aI,0,none⟩))),(5,(.bool av.2.2)),(6,(.pointer (some ⟨aT,0,none⟩))),(7,(.pointer (some ⟨be,0,none⟩))),(8,(.bool aU.2.2)),(9,(.int .i64 b9.1)),(49,(.int .i64 b9.1)),(50,(.bool (decide (b9.1<0)))),(51,(.bool (decide (b9.1<0)))),(56,(.bool ci)),(57,(.bool ci)),(61,(.bool (ci||(aU.2.2 !=av.2.2))))]) ?_ ?_
      ·rcases Bool.eq_false_or_eq_true ci with cI|cI
       ·refine AB f cI fun a f=> ?_
        refine AB f cI fun a f=>AB f cI fun a f=>l_o f (A3 (f.eval Z) cI (f.eval Z)) fun a f=> ?_
        exact⟨_,gr,m,f.weak ⟨Z,Z,Z,Z,Z,Z,Z,Z,Z,Z,Z,Z,Z,Z,by rw[cI];rfl,trivial⟩⟩
       ·refine Az f cI ?_
        refine Ab f Z fun a f=>Az f cI ?_
        refine Ab f Z fun a f=>Az f cI ?_
        refine l_o f (EJ (f.eval Z) (f.eval Z) Tryz.underlying4) fun a f=>l_o f (A2 (f.eval Z) cI (f.eval Z)) fun a f=> ?_
        exact⟨_,gr,m,f.weak ⟨Z,Z,Z,Z,Z,Z,Z,Z,Z,Z,Z,Z,Z,Z,by rw[cI];rfl,trivial⟩⟩
      ·rintro a w ⟨cH,cJ,m,f⟩
       have h0_0:=rd2 cJ h0_0
       have ch:=od2 cJ ch
       have bP:=od2 cJ bP
       have bc:=od2 cJ bc
       have bd:=od2 cJ bd
       have aG:=Ow.mono (RSl.mono (RI.mono _)) cJ aG
       have aH:=Ow.mono (RSl.mono (RI.mono _)) cJ aH
       refine Aa ?_
       rcases Ae hd with⟨cK,hd⟩|⟨cK,hd⟩
       ·refine Ak f Z cK ?_
        refine Ac ?_
        refine Ad f Z fun a f=>Aa ?_
        refine Ao ?_
        have m:Mem W cH w H:=Mem.drop (H':=[cg,bO,Itm.box be 36 [a8,ba],a9,bb,Itm.box aT 29 [aQ],Itm.box aI 36 [aC,aE],aD,aF,Itm.box aa 44 [v0_0]]) m
        obtain rfl:=sj hd
        exact⟨[(.bool false)],⟨f.get _ _ Z,trivial⟩,f.defers,_,[],(gt ae (gt al (gt ar (gt aA (gt aO (gt a6 (gt bw (gt bB (gt bE (gt bL (gt bR (gt b4 (gt b7 (gt ce (gt cG cJ))))))))))))))),m,Z,Z⟩
       ·refine Ag f Z cK ?_
        refine Al ?_
        refine Ac ?_
        refine Ad f Z fun a f=>Aa (Ac ?_)
        refine AE 2 0 (ds:=[a8,ba]) m BG f Z Z Z Z Z fun a f=>Ab f Z fun a f=> ?_
        have m:=m.front 4 rfl
        have m:Mem W cH w (a9::bb::cg::bO::Itm.box be 36 [a8,ba]::Itm.box aT 29 [aQ]::Itm.box aI 36 [aC,aE]::aD::aF::Itm.box aa 44 [v0_0]::H):=m.front 4 rfl
        obtain⟨cL,cM,hd⟩:=bind_some hd
        refine AK f Z Tryz.call27 (Wk.T0 m bc bd cM) fun cN cO cP w cQ m cR a f=> ?_
        obtain⟨cS,cT,rfl,rfl,cU,cV⟩:=cR
        have h0_0:=rd2 cQ h0_0
        have ch:=od2 cQ ch
        have bP:=od2 cQ bP
        have aG:=Ow.mono (RSl.mono (RI.mono _)) cQ aG
        have aH:=Ow.mono (RSl.mono (RI.mono _)) cQ aH
        refine Ad f Z fun a f=>Aa (Ac ?_)
        refine Ad f Z fun a f=>Aa (Ac ?_)
        refine AE 4 0 (ds:=[a8,ba]) m BG f Z Z Z Z Z fun a f=>Ab f Z fun a f=> ?_
        obtain⟨cW,cX,hd⟩:=bind_some hd
        refine AK f Z Tryz.call28 (Ow2.lendCall (RI.mono _) 0 cU m Z (fun cY cZ m c0=>(Ow2.lendCall (RI.mono _) 0 (od2 cZ cV) m Z (fun c1 c2 m c3=>Wk.S m (rd2 c2 c0) c3 cX) (fun _ _ _ _ h=>h))) (fun _ _ _ _ h=>h)) fun c4 c5 c6 w c7 m c8 a f=> ?_
        obtain⟨rfl,rfl⟩:=c8
        have h0_0:=rd2 c7 h0_0
        have cU:=od2 c7 cU
        have cV:=od2 c7 cV
        have ch:=od2 c7 ch
        have bP:=od2 c7 bP
        have aG:=Ow.mono (RSl.mono (RI.mono _)) c7 aG
        have aH:=Ow.mono (RSl.mono (RI.mono _)) c7 aH
        refine Ad f Z fun a f=>Aa (Af (Ac ?_))
        refine Ab f Z fun a f=>Ai f Z Z AA fun a f=>Aa ?_
        rcases Ae hd with⟨c9,hd⟩|⟨c9,hd⟩
        ·refine Ak f Z c9 ?_
         refine Ac ?_
         refine Ad f Z fun a f=>Aa ?_
         refine Ao ?_
         have m:Mem W c5 w H:=Mem.drop (H':=[cS,cT,cg,bO,Itm.box be 36 [a8,ba],Itm.box aT 29 [aQ],Itm.box aI 36 [aC,aE],aD,aF,Itm.box aa 44 [v0_0]]) m
         obtain rfl:=sj hd
         exact⟨[(.bool false)],⟨f.get _ _ Z,trivial⟩,f.defers,_,[],(gt ae (gt al (gt ar (gt aA (gt aO (gt a6 (gt bw (gt bB (gt bE (gt bL (gt bR (gt b4 (gt b7 (gt ce (gt cG (gt cJ (gt cQ c7))))))))))))))))),m,Z,Z⟩
        ·refine Ag f Z c9 ?_
         refine Al ?_
         refine Af (Ac ?_)
         refine Ab f Z fun a f=>Ab f Z fun a f=>Ai f Z Z Cs fun a f=>Aa ?_
         rcases Ae hd with⟨da,hd⟩|⟨da,hd⟩
         ·refine Ak f Z da ?_
          refine Ac ?_
          refine Ad f Z fun a f=>Aa ?_
          refine Ao ?_
          have m:Mem W c5 w H:=Mem.drop (H':=[cS,cT,cg,bO,Itm.box be 36 [a8,ba],Itm.box aT 29 [aQ],Itm.box aI 36 [aC,aE],aD,aF,Itm.box aa 44 [v0_0]]) m
          obtain rfl:=sj hd
          exact⟨[(.bool false)],⟨f.get _ _ Z,trivial⟩,f.defers,_,[],(gt ae (gt al (gt ar (gt aA (gt aO (gt a6 (gt bw (gt bB (gt bE (gt bL (gt bR (gt b4 (gt b7 (gt ce (gt cG (gt cJ (gt cQ c7))))))))))))))))),m,Z,Z⟩
         ·refine Ag f Z da ?_
          refine Al ?_
          refine Ac ?_
          refine AE 9 0 (ds:=[v0_0]) m Ag44 f Z Z Z Z Z fun a f=> ?_
          obtain⟨db,dc,hd⟩:=bind_some hd
          refine AK f Z Tryz.call23 (Wk.x m h0_0 dc) fun dd de df w dg m dh a f=> ?_
          obtain⟨di,dj,rfl,rfl,dk⟩:=dh
          have h0_0:=rd2 dg h0_0
          have cU:=od2 dg cU
          have cV:=od2 dg cV
          have ch:=od2 dg ch
          have bP:=od2 dg bP
          have aG:=Ow.mono (RSl.mono (RI.mono _)) dg aG
          have aH:=Ow.mono (RSl.mono (RI.mono _)) dg aH
          obtain⟨dl,dm,hd⟩:=bind_some hd
          refine AK f Z Tryz.call11 (Ow2.lendCall (RI.mono _) 0 dk m Z (fun dn dp m dq=>Wk.K hW m dq dm) (fun _ G' _ _ ⟨a0,a1,a2,a3,e1,e2,o0,o1⟩=>⟨a0,a1,a2,a3,e1,e2,Ow2.free (RI.free _) G' o0,Ow2.free (RI.free _) G' o1⟩)) fun dr dt du w dv m dw a f=> ?_
          obtain⟨dx,dy,dz,dA,rfl,rfl,dB,dC⟩:=dw
          have h0_0:=rd2 dv h0_0
          have dk:=od2 dv dk
          have cU:=od2 dv cU
          have cV:=od2 dv cV
          have ch:=od2 dv ch
          have bP:=od2 dv bP
          have aG:=Ow.mono (RSl.mono (RI.mono _)) dv aG
          have aH:=Ow.mono (RSl.mono (RI.mono _)) dv aH
          refine Ab f Z fun a f=>l_o f (A9 (f.eval Z) Z) fun a f=>l_o f (A9 (f.eval Z) Z) fun a f=>Bp (cs:=[(.slice none 0 0),(.slice none 0 0)]) Tryz.zeroValue36 m f Z Z fun dD w a m f=>AG 0 0 (ds:=[dx,dz]) m Tryz.sizeOf36 f Z Z Z (Av (Ow2.one1 1 m dB Z) (Av (Ow2.one1 2 m dC Z) AS)) Z (Nat.le_of_ble_eq_true Z) Z fun w m=>Ad f Z fun a f=>Aa (Af (Ac ?_))
          refine AE 0 0 (ds:=[dx,dz]) m BG f Z Z Z Z Z fun a f=>AE 10 0 (ds:=[aC,aE]) m BG f Z Z Z Z Z fun a f=> ?_
          obtain⟨dE,dF,hd⟩:=bind_some hd
          refine AK f Z Tryz.call24 (Ow2.lendCall (RI.mono _) 1 dB m Z (fun dG dH m dI=>(Ow2.lendCall (RI.mono _) 1 (od2 dH dC) m Z (fun dJ dK m dL=>(Ow.lendCall (RSl.mono (RI.mono _)) 9 (Ow.mono (RSl.mono (RI.mono _)) dK (Ow.mono (RSl.mono (RI.mono _)) dH aG)) m Z (fun dM dN m dO=>(Ow.lendCall (RSl.mono (RI.mono _)) 9 (Ow.mono (RSl.mono (RI.mono _)) dN (Ow.mono (RSl.mono (RI.mono _)) dK (Ow.mono (RSl.mono (RI.mono _)) dH aH))) m Z (fun dP dQ m dR=>Wk.C m (rd2 dQ (rd2 dN (rd2 dK dI))) (rd2 dQ (rd2 dN dL)) (rd2 dQ dO) dR dF) (fun _ _ _ _ h=>h))) (fun _ _ _ _ h=>h))) (fun _ _ _ _ h=>h))) (fun _ _ _ _ h=>h)) fun dS dT dU w dV m dW a f=> ?_
          obtain⟨rfl,rfl⟩:=dW
          have h0_0:=rd2 dV h0_0
          have dB:=od2 dV dB
          have dC:=od2 dV dC
          have dk:=od2 dV dk
          have cU:=od2 dV cU
          have cV:=od2 dV cV
          have ch:=od2 dV ch
          have bP:=od2 dV bP
          have aG:=Ow.mono (RSl.mono (RI.mono _)) dV aG
          have aH:=Ow.mono (RSl.mono (RI.mono _)) dV aH
          refine l_o f (Bs (f.eval Z)) fun a f=>Ab f Z fun a f=> ?_
          refine BA 4 (fun a w=>∃dX,GLe dT dX∧Mem W dX w (Itm.box dD 36 [dx,dz]::dy::dA::dj::cS::cT::cg::bO::Itm.box be 36 [a8,ba]::Itm.box aT 29 [aQ]::Itm.box aI 36 [aC,aE]::aD::aF::Itm.box aa 44 [v0_0]::H)∧Fr a 96 [(0,(.agg #[v0_0])),(1,(.pointer (some ⟨aa,0,none⟩))),(3,(.int .i64 ab)),(4,(.pointer (some ⟨aI,0,none⟩))),(5,(.bool av.2.2)),(6,(.pointer (some ⟨aT,0,none⟩))),(7,(.pointer (some ⟨be,0,none⟩))),(8,(.bool aU.2.2)),(9,(.int .i64 b9.1)),(10,(.int .i64 cL.1)),(11,(.int .i64 cW)),(12,(.pointer (some ⟨dD,0,none⟩))),(13,(.bool dl.2.2)),(79,(.agg #[dx,dz])),(80,(.agg #[aC,aE])),(81,(.bool dE)),(82,(.bool (!dE))),(83,(.bool (!dE))),(87,(.bool ((!dE)||(dl.2.2 !=av.2.2))))]) ?_ ?_
          ·rcases Bool.eq_false_or_eq_true (!dE) with dY|dY
           ·refine AB f dY fun a f=> ?_
            refine AB f dY fun a f=>AB f dY fun a f=>l_o f (A3 (f.eval Z) dY (f.eval Z)) fun a f=> ?_
            exact⟨_,gr,m,f.weak ⟨Z,Z,Z,Z,Z,Z,Z,Z,Z,Z,Z,Z,Z,Z,Z,Z,Z,Z,by rw[dY];rfl,trivial⟩⟩
           ·refine Az f dY ?_
            refine Ab f Z fun a f=>Az f dY ?_
            refine Ab f Z fun a f=>Az f dY ?_
            refine l_o f (EJ (f.eval Z) (f.eval Z) Tryz.underlying4) fun a f=>l_o f (A2 (f.eval Z) dY (f.eval Z)) fun a f=> ?_
            exact⟨_,gr,m,f.weak ⟨Z,Z,Z,Z,Z,Z,Z,Z,Z,Z,Z,Z,Z,Z,Z,Z,Z,Z,by rw[dY];rfl,trivial⟩⟩
          ·rintro a w ⟨dX,dZ,m,f⟩
           have h0_0:=rd2 dZ h0_0
           have dB:=od2 dZ dB
           have dC:=od2 dZ dC
           have dk:=od2 dZ dk
           have cU:=od2 dZ cU
           have cV:=od2 dZ cV
           have ch:=od2 dZ ch
           have bP:=od2 dZ bP
           have aG:=Ow.mono (RSl.mono (RI.mono _)) dZ aG
           have aH:=Ow.mono (RSl.mono (RI.mono _)) dZ aH
           refine Aa ?_
           rcases Ae hd with⟨d0,hd⟩|⟨d0,hd⟩
           ·refine Ak f Z d0 ?_
            refine Ac ?_
            refine Ad f Z fun a f=>Aa ?_
            refine Ao ?_
            have m:Mem W dX w H:=Mem.drop (H':=[Itm.box dD 36 [dx,dz],dy,dA,dj,cS,cT,cg,bO,Itm.box be 36 [a8,ba],Itm.box aT 29 [aQ],Itm.box aI 36 [aC,aE],aD,aF,Itm.box aa 44 [v0_0]]) m
            obtain rfl:=sj hd
            exact⟨[(.bool false)],⟨f.get _ _ Z,trivial⟩,f.defers,_,[],(gt ae (gt al (gt ar (gt aA (gt aO (gt a6 (gt bw (gt bB (gt bE (gt bL (gt bR (gt b4 (gt b7 (gt ce (gt cG (gt cJ (gt cQ (gt c7 (gt dg (gt dv (gt dV dZ))))))))))))))))))))),m,Z,Z⟩
           ·refine Ag f Z d0 ?_
            refine Al ?_
            refine Ac ?_
            refine Ad f Z fun a f=>Aa (Ac ?_)
            refine AE 8 0 (ds:=[a8,ba]) m BG f Z Z Z Z Z fun a f=>Ab f Z fun a f=> ?_
            obtain⟨d1,d2,hd⟩:=bind_some hd
            refine AK f Z Tryz.call28 (Ow2.lendCall (RI.mono _) 4 cU m Z (fun d3 d4 m d5=>(Ow2.lendCall (RI.mono _) 4 (od2 d4 cV) m Z (fun d6 d7 m d8=>Wk.S m (rd2 d7 d5) d8 d2) (fun _ _ _ _ h=>h))) (fun _ _ _ _ h=>h)) fun d9 ea eb w ec m ed a f=> ?_
            obtain⟨rfl,rfl⟩:=ed
            have h0_0:=rd2 ec h0_0
            have dB:=od2 ec dB
            have dC:=od2 ec dC
            have dk:=od2 ec dk
            have cU:=od2 ec cU
            have cV:=od2 ec cV
            have ch:=od2 ec ch
            have bP:=od2 ec bP
            have aG:=Ow.mono (RSl.mono (RI.mono _)) ec aG
            have aH:=Ow.mono (RSl.mono (RI.mono _)) ec aH
            refine Ad f Z fun a f=>Aa (Af (Ac ?_))
            refine Ab f Z fun a f=>Ai f Z Z AA fun a f=>Aa ?_
            rcases Ae hd with⟨ee,hd⟩|⟨ee,hd⟩
            ·refine Ak f Z ee ?_
             refine Ac ?_
             refine Ad f Z fun a f=>Aa ?_
             refine Ao ?_
             have m:Mem W ea w H:=Mem.drop (H':=[Itm.box dD 36 [dx,dz],dy,dA,dj,cS,cT,cg,bO,Itm.box be 36 [a8,ba],Itm.box aT 29 [aQ],Itm.box aI 36 [aC,aE],aD,aF,Itm.box aa 44 [v0_0]]) m
             obtain rfl:=sj hd
             exact⟨[(.bool false)],⟨f.get _ _ Z,trivial⟩,f.defers,_,[],(gt ae (gt al (gt ar (gt aA (gt aO (gt a6 (gt bw (gt bB (gt bE (gt bL (gt bR (gt b4 (gt b7 (gt ce (gt cG (gt cJ (gt cQ (gt c7 (gt dg (gt dv (gt dV (gt dZ ec)))))))))))))))))))))),m,Z,Z⟩
            ·refine Ag f Z ee ?_
             refine Al ?_
             refine Af (Ac ?_)
             refine Ab f Z fun a f=>Ab f Z fun a f=>Ai f Z Z Cs fun a f=>Aa ?_
             rcases Ae hd with⟨ef,hd⟩|⟨ef,hd⟩
             ·refine Ak f Z ef ?_
              refine Ac ?_
              refine Ad f Z fun a f=>Aa ?_
              refine Ao ?_
              have m:Mem W ea w H:=Mem.drop (H':=[Itm.box dD 36 [dx,dz],dy,dA,dj,cS,cT,cg,bO,Itm.box be 36 [a8,ba],Itm.box aT 29 [aQ],Itm.box aI 36 [aC,aE],aD,aF,Itm.box aa 44 [v0_0]]) m
              obtain rfl:=sj hd
              exact⟨[(.bool false)],⟨f.get _ _ Z,trivial⟩,f.defers,_,[],(gt ae (gt al (gt ar (gt aA (gt aO (gt a6 (gt bw (gt bB (gt bE (gt bL (gt bR (gt b4 (gt b7 (gt ce (gt cG (gt cJ (gt cQ (gt c7 (gt dg (gt dv (gt dV (gt dZ ec)))))))))))))))))))))),m,Z,Z⟩
             ·refine Ag f Z ef ?_
              refine Al ?_
              refine Ac ?_
              refine Ad f Z fun a f=>Aa ?_
              refine Ao ?_
              have m:Mem W ea w H:=Mem.drop (H':=[Itm.box dD 36 [dx,dz],dy,dA,dj,cS,cT,cg,bO,Itm.box be 36 [a8,ba],Itm.box aT 29 [aQ],Itm.box aI 36 [aC,aE],aD,aF,Itm.box aa 44 [v0_0]]) m
              obtain rfl:=sj hd
              exact⟨[(.bool true)],⟨f.get _ _ Z,trivial⟩,f.defers,_,[],(gt ae (gt al (gt ar (gt aA (gt aO (gt a6 (gt bw (gt bB (gt bE (gt bL (gt bR (gt b4 (gt b7 (gt ce (gt cG (gt cJ (gt cQ (gt c7 (gt dg (gt dv (gt dV (gt dZ ec)))))))))))))))))))))),m,Z,Z⟩
end Go.Proofs.YtkffjeaefgfnnaaGreatDoor
