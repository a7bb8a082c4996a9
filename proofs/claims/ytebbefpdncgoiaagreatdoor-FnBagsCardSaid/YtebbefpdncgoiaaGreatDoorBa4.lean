/- Parts of the proof: BCW, BCW. -/
import Derived.Test.YtebbefpdncgoiaaGreatDoorBa3
import Derived.Test.YtebbefpdncgoiaaGreatDoorProg
import Derived.KernelRfl
set_option linter.unusedVariables false
set_option linter.unusedSimpArgs false
set_option linter.unusedSectionVars false
set_option maxRecDepth 100000
namespace Go.Proofs.YtebbefpdncgoiaaGreatDoor
open Go Go.Sx
theorem Cw :Cm Tryz.prog 76:=Tryz.isAgg76
theorem B5 :Agg Tryz.prog 27 2:=⟨Tryz.isAgg27,Tryz.sizeOf27⟩
theorem Wk.G {W w:World}{G:GH}{H:List Itm}{x0:Int}(hW:CP W)(m:Mem W G w (H)){y:Int}(hd:D.G x0=some y):
  Calls Tryz.prog 147 #[(.int .u32 x0)] w (Res W G H (fun _ Ho v=>Ho=[]∧v=(.int .i64 y))):=by
 refine As (args:=[(.int .u32 x0)]) (N:=5) [.tmp 2] Tryz.func147 Z Z (Nat.le_of_ble_eq_true Z) Z fun a f=> ?_
 unfold D.G at hd
 refine Ac ?_
 refine Ad f Z fun a f=>Aa (Ac ?_)
 refine Ab f Z fun a f=> ?_
 obtain⟨aa,ab,hd⟩:=bind_some hd
 refine Bi f Z Tryz.call179 (Wk.l1 hW m ab) fun ac w ad m a f=>Ad f Z fun a f=>Aa ?_
 refine Aq ?_
 obtain rfl:=sj hd
 exact⟨[(.int .i64 aa)],⟨f.get _ _ Z,trivial⟩,f.defers,_,[],ad,m,Z,Z⟩
theorem Wk.i {W w:World}{G:GH}{H:List Itm}{x0:Int}(hW:CP W)(m:Mem W G w (H)){y:((List Int))}(hd:D.i x0=some y):
  Calls Tryz.prog 103 #[(.int .u32 x0)] w (Res W G H (fun G' Ho v=>∃r0:Value,∃i0:Itm,Ho=[i0]∧r0=v∧Ow (RI .i64) 3 G' i0 r0 y)):=by
 refine As (args:=[(.int .u32 x0)]) (N:=17) [.tmp 2] Tryz.func103 Z Z (Nat.le_of_ble_eq_true Z) Z fun a f=> ?_
 unfold D.i at hd
 refine Ac ?_
 refine Ad f Z fun a f=>Aa (Ac ?_)
 refine A8 (R:=(RI .i64)) (xs:=([]:List Int)) (RI.one _) m T94 f Z Z Z (by decide) (All2.nil _) fun aa ab w a m ac f=>Ad f Z fun a f=>Aa (Af ?_)
 obtain⟨ad,ae,hd⟩:=bind_some hd
 refine AC (fun a w=>∃af:List Int,af=ad∧∃(ag:GH) (ah:Value) (ai:Itm),GLe G ag∧Fr a 17 [(3,ah)]∧Mem W ag w (ai::H)∧Ow (RI .i64) 3 ag ai ah af) ?_ ?_
 ·refine Aj ?_
  refine AA (fun aj a w=>∃ak:Int,∃al:List Int,(ak,al)=aj∧∃(am:GH) (an:Value) (ao:Itm),GLe G am∧Fr a 17 [(0,(.int .u32 ak)),(3,an)]∧Mem W am w (ao::H)∧Ow (RI .i64) 3 am ao an al) ae ⟨_,_,Z,_,ab,aa,gr,f.k Z,m,ac⟩ ?_
  clear ae f m
  rintro aj ap aq ar a w ⟨ak,al,rfl,am,an,ao,au,f,m,av⟩
  refine Af (Ac ?_)
  refine Ab f Z fun a f=>Ah f Z Z CI fun a f=>Aa ?_
  rcases Ae aq with⟨aw,aq⟩|⟨aw,aq⟩
  ·refine Al f Z aw ?_
   refine Am ?_
   refine Af (Aj (Ak ?_))
   refine Ab f Z fun a f=>Ab f Z fun a f=> ?_
   obtain⟨ax,ay,aq⟩:=bind_some aq
   refine Bi f Z Tryz.call147 (Wk.G hW m ay) fun az w aA m a f=> ?_
   have av:=od1 aA av
   refine A8 (R:=(RI .i64)) (xs:=([ax]:List Int)) (RI.one _) m T94 f Z Z Z (by decide) (All2.cons Z (All2.nil _)) fun aB aC w a m aD f=> ?_
   obtain⟨aE,aF,aq⟩:=bind_some aq
   refine Bo (RI.one _) 1 m av Z T94 Z (by decide) f Z Z Z (Ow.src (j:=0) aD m Z) aF fun aG aH w a m aI f=>Ad f Z fun a f=>Aa (Ak ?_)
   refine Ab f Z fun a f=>Ab f Z fun a f=>Ah f Z Z AH fun a f=>Ah f Z Z DH fun a f=>Ad f Z fun a f=>Aa ?_
   have m:=m.front 1 rfl
   have m:=m.eraseAt 1
   obtain rfl:=sj aq
   exact⟨_,Z,_,_,Z,_,aH,aG,(gt au aA),f.k Z,m,aI⟩
  ·refine Ai f Z aw ?_
   refine Ax Z ?_
   obtain rfl:=sj aq
   obtain rfl:=ar _ rfl
   exact⟨_,Z,_,an,ao,au,f.k Z,m,av⟩
 ·rintro a w ⟨af,rfl,ag,ah,ai,aJ,f,m,aK⟩
  refine Ac ?_
  refine Ab f Z fun a f=>Ad f Z fun a f=>Aa ?_
  refine Aq ?_
  obtain rfl:=sj hd
  exact⟨[ah],⟨f.get _ _ Z,trivial⟩,f.defers,_,[ai],aJ,m,_,_,Z,Z,aK⟩
theorem Wk.B {W w:World}{G:GH}{H:List Itm}{v0:Value}{v1:Value}{x0:(List Int)}{x1:(List Int)}(hW:CP W)(m:Mem W G w (H))(h0:RSl (RI .u32) G v0 x0)(h1:RSl (RI .i64) G v1 x1){y:((List Int))×((List Int))}(hd:D.B x0 x1=some y):
  Calls Tryz.prog 135 #[v0,v1] w (Res W G H (fun G' Ho v=>∃r0:Value,∃i0:Itm,∃r2:Value,∃i2:Itm,Ho=[i0,i2]∧v= .tuple #[r0,r2]∧Ow (RI .u32) 76 G' i0 r0 y.1∧Ow (RI .u32) 76 G' i2 r2 y.2)):=by
 refine As (args:=[v0,v1]) (N:=67) [.tmp 4,.tmp 5] Tryz.func135 Z Z (Nat.le_of_ble_eq_true Z) Z fun a f=> ?_
 unfold D.B at hd
 refine Ac ?_
 refine Ad f Z fun a f=>Ad f Z fun a f=>Aa (Af ?_)
 obtain⟨aa,ab,hd⟩:=bind_some hd
 refine AC (fun a w=>∃ac:List Int,∃ad:List Int,∃ae:Int,(ac,ad,ae)=aa∧∃(af:GH) (ag:Value) (ah:Itm) (ai:Value) (aj:Itm),GLe G af∧Fr a 67 [(1,v1),(6,ag),(7,ai),(8,(.int .u32 ae))]∧Mem W af w (ah::aj::H)∧Ow (RI .u32) 76 af ah ag ac∧Ow (RI .u32) 76 af aj ai ad) ?_ ?_
 ·refine AT 9 Aw (by kernel_rfl) m ?_
  refine Ag 1 9 Z f Z fun a f=>Ag 3 9 Z f Z fun a f=>Ei (i:=4) 9 Tryz.underlying73 h0 Z (by kernel_rfl) Z f Z Z Z fun a f=>Ag 6 9 Z f Z fun a f=>q_two (i:=0) (j:=5) (l1:= #[true,true,false,true,true,false,true,false,false,false,false]) (l2:= #[false,true,false,true,true,true,true,false,false,false,false]) Z Z (by kernel_rfl) Z Z ?_ ?_
  ·intro ak w al m am am
   have h0:=rd1 al h0
   have h1:=rd1 al h1
   refine A8 (R:=(RI .u32)) (xs:=([]:List Int)) (RI.one _) m T73 f Z Z Z (by decide) (All2.nil _) fun an ao w a m ap f=>Aa ?_
   refine am ak [an] _ _ gr m ?_
   refine q_two (i:=2) (j:=5) (l1:= #[true,true,true,true,true,false,true,false,false,false,false]) (l2:= #[true,true,false,true,true,true,true,false,false,false,false]) Z Z (by kernel_rfl) Z Z ?_ ?_
   ·intro aq w ar m au au
    have h0:=rd1 ar h0
    have h1:=rd1 ar h1
    have ap:=od1 ar ap
    obtain⟨av,aw,ab⟩:=bind_some ab
    refine Bo (RI.one _) 0 m ap Z T73 Z (by decide) f Z Z Z (h0.src m) aw fun ax ay w a m az f=>Aa ?_
    refine au aq [ax] _ _ gr m ?_
    obtain⟨aA,aB,ab⟩:=bind_some ab
    refine Bh (i:=7) 9 Z (by kernel_rfl) Z f Z Z Z Tryz.call53 (fun _ _ w aC m=>Wk.p m (rd1 aC h0) aB) fun a f=>q_p 8 9 Z f (fun _=>Bl (f.eval Z)) fun a f=>BD (i:=5) Z (by kernel_rfl) Z fun aD w aE m aF aF=> ?_
    have h0:=rd1 aE h0
    have h1:=rd1 aE h1
    have az:=od1 aE az
    obtain⟨aG,aH,ab⟩:=bind_some ab
    refine Da (R:=(RI .u32)) m T73 Z (by decide) Z f Z Z Z aH fun aI aJ w a m aK f=>Aa ?_
    refine aF aD [aI,ax] _ _ gr m ?_
    refine AI fun aL w aM m=> ?_
    have h0:=rd1 aM h0
    have h1:=rd1 aM h1
    have aK:=od1 aM aK
    have az:=od1 aM az
    refine Ad f Z fun a f=>Ad f Z fun a f=>Aa ?_
    have m:=m.front 1 rfl
    obtain rfl:=sj ab
    exact⟨_,_,_,Z,_,ay,ax,aJ,aI,(gt al (gt ar (gt aE aM))),f.k Z,m,az,aK⟩
   ·intro aD w aE m aF aF
    obtain⟨av,aw,ab⟩:=bind_some ab
    obtain⟨aA,aB,ab⟩:=bind_some ab
    obtain⟨aG,aH,ab⟩:=bind_some ab
    have h0:=rd1 aE h0
    have h1:=rd1 aE h1
    have ap:=od1 aE ap
    refine Da (R:=(RI .u32)) m T73 Z (by decide) Z f Z Z Z aH fun aI aJ w a m aK f=>Aa ?_
    refine aF aD [aI,an] _ _ gr m ?_
    refine BD (i:=2) Z (by kernel_rfl) Z fun aq w ar m au au=> ?_
    have h0:=rd1 ar h0
    have h1:=rd1 ar h1
    have aK:=od1 ar aK
    have ap:=od1 ar ap
    refine Bo (RI.one _) 1 m ap Z T73 Z (by decide) f Z Z Z (h0.src m) aw fun ax ay w a m az f=>Aa ?_
    refine au aq [aI,ax] _ _ gr m ?_
    refine Bh (i:=7) 9 Z (by kernel_rfl) Z f Z Z Z Tryz.call53 (fun _ _ w aC m=>Wk.p m (rd1 aC h0) aB) fun a f=>q_p 8 9 Z f (fun _=>Bl (f.eval Z)) fun a f=>AI fun aL w aM m=> ?_
    have h0:=rd1 aM h0
    have h1:=rd1 aM h1
    have aK:=od1 aM aK
    have az:=od1 aM az
    refine Ad f Z fun a f=>Ad f Z fun a f=>Aa ?_
    have m:=m.front 1 rfl
    obtain rfl:=sj ab
    exact⟨_,_,_,Z,_,ay,ax,aJ,aI,(gt al (gt aE (gt ar aM))),f.k Z,m,az,aK⟩
  ·intro aD w aE m aF aF
   obtain⟨av,aw,ab⟩:=bind_some ab
   obtain⟨aA,aB,ab⟩:=bind_some ab
   obtain⟨aG,aH,ab⟩:=bind_some ab
   have h0:=rd1 aE h0
   have h1:=rd1 aE h1
   refine Da (R:=(RI .u32)) m T73 Z (by decide) Z f Z Z Z aH fun aI aJ w a m aK f=>Aa ?_
   refine aF aD [aI] _ _ gr m ?_
   refine BD (i:=0) Z (by kernel_rfl) Z fun ak w al m am am=> ?_
   have h0:=rd1 al h0
   have h1:=rd1 al h1
   have aK:=od1 al aK
   refine A8 (R:=(RI .u32)) (xs:=([]:List Int)) (RI.one _) m T73 f Z Z Z (by decide) (All2.nil _) fun an ao w a m ap f=>Aa ?_
   refine am ak [an,aI] _ _ gr m ?_
   refine BD (i:=2) Z (by kernel_rfl) Z fun aq w ar m au au=> ?_
   have h0:=rd1 ar h0
   have h1:=rd1 ar h1
   have ap:=od1 ar ap
   have aK:=od1 ar aK
   refine Bo (RI.one _) 0 m ap Z T73 Z (by decide) f Z Z Z (h0.src m) aw fun ax ay w a m az f=>Aa ?_
   refine au aq [ax,aI] _ _ gr m ?_
   refine Bh (i:=7) 9 Z (by kernel_rfl) Z f Z Z Z Tryz.call53 (fun _ _ w aC m=>Wk.p m (rd1 aC h0) aB) fun a f=>q_p 8 9 Z f (fun _=>Bl (f.eval Z)) fun a f=>AI fun aL w aM m=> ?_
   have h0:=rd1 aM h0
   have h1:=rd1 aM h1
   have az:=od1 aM az
   have aK:=od1 aM aK
   refine Ad f Z fun a f=>Ad f Z fun a f=>Aa ?_
   obtain rfl:=sj ab
   exact⟨_,_,_,Z,_,ay,ax,aJ,aI,(gt aE (gt al (gt ar aM))),f.k Z,m,az,aK⟩
 ·rintro a w ⟨ac,ad,ae,rfl,af,ag,ah,ai,aj,aN,f,m,aO,aP⟩
  have h1:=rd1 aN h1
  refine Af (Ac ?_)
  refine Ab f Z fun a f=>AZ Tryz.underlying94 f Z Z h1 fun a f=>Ab f Z fun a f=>Aa ?_
  obtain⟨aQ,aR,hd⟩:=bind_some hd
  refine AC (fun a w=>∃aS:List Int,∃aT:List Int,(aS,aT)=aQ∧∃(aU:GH) (aV:Itm) (aW:Itm),GLe af aU∧Fr a 67 [(6,ag),(7,ai)]∧Mem W aU w (aV::aW::H)∧Ow (RI .u32) 76 aU aV ag aS∧Ow (RI .u32) 76 aU aW ai aT) ?_ ?_
  ·refine Aj ?_
   refine AA (fun aX a w=>∃aY:List Int,∃aZ:List Int,∃a0:Int,∃a1:Int,(aY,aZ,a0,a1)=aX∧∃(a2:GH) (a3:Itm) (a4:Itm),GLe af a2∧Fr a 67 [(6,ag),(7,ai),(8,(.int .u32 a0)),(21,v1),(22,(.int .i64 (x1.length:Int))),(23,(.int .i64 a1))]∧Mem W a2 w (a3::a4::H)∧Ow (RI .u32) 76 a2 a3 ag aY∧Ow (RI .u32) 76 a2 a4 ai aZ) aR ⟨_,_,_,_,Z,_,ah,aj,gr,f.k Z,m,aO,aP⟩ ?_
   clear aR f m
   rintro aX a5 a6 a7 a w ⟨aY,aZ,a0,a1,rfl,a2,a3,a4,a8,f,m,a9,ba⟩
   have h1:=rd1 a8 h1
   refine Ac ?_
   refine Ah f Z Z AJ fun a f=>Aa (Af ?_)
   rcases Ae a6 with⟨bb,a6⟩|⟨bb,a6⟩
   ·refine Al f Z bb ?_
    refine Am ?_
    refine Af (Aj (Ac ?_))
    obtain⟨bc,bd,a6⟩:=bind_some a6
    refine Bf T94 f Z Z Z h1 bd fun be bf a bg bh f=> ?_
    subst bh
    refine AG m Pl3 f Z Z bg fun a f=>Ad f Z fun a f=>Aa (Ac ?_)
    refine Ab f Z fun a f=>Ab f Z fun a f=> ?_
    obtain⟨bi,bj,a6⟩:=bind_some a6
    refine Bi f Z Tryz.call100 (Wk.c m bj) fun bk w bl m a f=> ?_
    have h1:=rd1 bl h1
    have a9:=od1 bl a9
    have ba:=od1 bl ba
    refine Ah f Z Z CN fun a f=>Ad f Z fun a f=>Aa (Ac ?_)
    refine Ab f Z fun a f=>Ab f Z fun a f=>Ab f Z fun a f=>Ab f Z fun a f=> ?_
    obtain⟨bm,bn,a6⟩:=bind_some a6
    refine AW 0 m a9 Z T73 f Z Z Z bn fun bo a bp f=>BL 0 m a9 Z Cw f Z Z bp bn fun bq a br f=> ?_
    subst br
    refine Ab f Z fun a f=>Ah f Z Z DH fun a f=> ?_
    obtain⟨bs,bt,a6⟩:=bind_some a6
    refine AW 1 m ba Z T73 f Z Z Z bt fun bu a bv f=>Au 1 m ba Z Tryz.sizeOf76 f Z Z bv bt Z Z Z fun bw w m bx=>Aa (Ac ?_)
    refine Ab f Z fun a f=>Ab f Z fun a f=> ?_
    obtain⟨bz,bA,a6⟩:=bind_some a6
    refine AW 1 m bx Z T73 f Z Z Z bA fun bB a bC f=>BL 1 m bx Z Cw f Z Z bC bA fun bD a bE f=> ?_
    subst bE
    obtain⟨bF,bG,a6⟩:=bind_some a6
    refine AK f Z Tryz.call103 (Wk.i hW m bG) fun bH bI bJ w bK m bL a f=> ?_
    obtain⟨bM,bN,rfl,rfl,bO⟩:=bL
    have h1:=rd1 bK h1
    have a9:=od1 bK a9
    have bx:=od1 bK bx
    refine BB 0 m bO Z Tryz.underlying94 f Z Z fun a f=>Ab f Z fun a f=>Aa ?_
    obtain⟨bP,bQ,a6⟩:=bind_some a6
    refine AC (fun a w=>∃bR:List Int,bR=bP∧∃(bS:GH) (bT:Itm),GLe bI bS∧Fr a 67 [(6,ag),(7,ai),(8,(.int .u32 (iandNot .u32 a0 bi))),(21,v1),(22,(.int .i64 (x1.length:Int))),(23,(.int .i64 a1))]∧Mem W bS w (bT::bw::H)∧Ow (RI .u32) 76 bS bT ag bR) ?_ ?_
    ·refine Aj ?_
     have m:=m.front 2 rfl
     have m:=m.front 2 rfl
     refine AA (fun bU a w=>∃bV:List Int,∃bW:Int,(bV,bW)=bU∧∃(bX:GH) (bY:Itm),GLe bI bX∧Fr a 67 [(6,ag),(7,ai),(8,(.int .u32 (iandNot .u32 a0 bi))),(10,(.int .i64 bc)),(21,v1),(22,(.int .i64 (x1.length:Int))),(23,(.int .i64 a1)),(44,bM),(45,(.int .i64 (bF.length:Int))),(46,(.int .i64 bW))]∧Mem W bX w (bY::bw::bN::H)∧Ow (RI .u32) 76 bX bY ag bV) bQ ⟨_,_,Z,_,a3,gr,f.k Z,m,a9⟩ ?_
     clear bQ f m
     rintro bU bZ b0 b1 a w ⟨bV,bW,rfl,bX,bY,b2,f,m,b3⟩
     have h1:=rd1 b2 h1
     have bx:=od1 b2 bx
     have bO:=od1 b2 bO
     refine Ac ?_
     refine Ah f Z Z AJ fun a f=>Aa (Af ?_)
     rcases Ae b0 with⟨b4,b0⟩|⟨b4,b0⟩
     ·refine Al f Z b4 ?_
      refine Am ?_
      refine Af (Aj (Ac ?_))
      obtain⟨b5,b6,b0⟩:=bind_some b0
      refine AW 2 m bO Z T94 f Z Z Z b6 fun b7 a b8 f=>BL 2 m bO Z Pl3 f Z Z b8 b6 fun b9 a ca f=> ?_
      subst ca
      refine Ad f Z fun a f=>Aa ?_
      refine AT 13 Aw (by kernel_rfl) m ?_
      refine Ag 0 13 Z f Z fun a f=>Ag 1 13 Z f Z fun a f=> ?_
      obtain⟨cb,cc,b0⟩:=bind_some b0
      refine Az 2 13 0 m b3 T73 cc Z f Z Z fun cd a ce f=>AL 3 13 0 b3 Cw ce cc Z f Z fun cf a cg f=> ?_
      subst cg
      refine Ag 4 13 Z f Z fun a f=>Ag 5 13 Z f Z fun a f=> ?_
      obtain⟨ch,ci,b0⟩:=bind_some b0
      refine Az 6 13 1 m bx T73 ci Z f Z Z fun cj a ck f=>AL 7 13 1 bx Cw ck ci Z f Z fun cl a cm f=> ?_
      subst cm
      refine Ag 8 13 Z f Z fun a f=> ?_
      obtain⟨cn,co,b0⟩:=bind_some b0
      refine Bh (i:=9) 13 Z (by kernel_rfl) Z f Z Z Z Tryz.call100 (fun _ _ w cp m=>Wk.c m co) fun a f=>q_p 10 13 Z f (fun _=>AD (f.eval Z) (f.eval Z) CN) fun a f=>q_p 11 13 Z f (fun _=>AD (f.eval Z) (f.eval Z) b_or) fun a f=> ?_
      obtain⟨cq,cr,b0⟩:=bind_some b0
      refine Az 12 13 0 m b3 T73 cr Z f Z Z fun cs a ct f=>AI fun cu w cv m=> ?_
      have h1:=rd1 cv h1
      have b3:=od1 cv b3
      have bx:=od1 cv bx
      have bO:=od1 cv bO
      refine Au 0 m b3 Z Tryz.sizeOf76 f Z Z ct cr Z Z Z fun cw w m cx=>Aa (Ak ?_)
      refine Ah f Z Z Ar fun a f=>Ab f Z fun a f=>Aa ?_
      obtain rfl:=sj b0
      exact⟨_,Z,_,_,Z,_,cw,(gt b2 cv),f.k Z,m,cx⟩
     ·refine Ai f Z b4 ?_
      refine Ax Z ?_
      have m:=m.eraseAt 2
      obtain rfl:=sj b0
      obtain rfl:=b1 _ rfl
      exact⟨_,Z,_,bY,b2,f.k Z,m,b3⟩
    ·rintro a w ⟨bR,rfl,bS,bT,cy,f,m,cz⟩
     have h1:=rd1 cy h1
     have bx:=od1 cy bx
     refine Ak ?_
     refine Ah f Z Z Ar fun a f=>Ab f Z fun a f=>Aa ?_
     obtain rfl:=sj a6
     exact⟨_,Z,_,_,_,_,Z,_,bT,bw,(gt a8 (gt bl (gt bK cy))),f.k Z,m,cz,bx⟩
   ·refine Ai f Z bb ?_
    refine Ax Z ?_
    obtain rfl:=sj a6
    obtain rfl:=a7 _ rfl
    exact⟨_,_,Z,_,a3,a4,a8,f.k Z,m,a9,ba⟩
  ·rintro a w ⟨aS,aT,rfl,aU,aV,aW,cA,f,m,cB,cC⟩
   refine Ac ?_
   refine Ab f Z fun a f=>Ab f Z fun a f=>Ad f Z fun a f=>Ad f Z fun a f=>Aa ?_
   refine Aq ?_
   obtain rfl:=sj hd
   exact⟨[ag,ai],⟨f.get _ _ Z,f.get _ _ Z,trivial⟩,f.defers,_,[aV,aW],(gt aN cA),m,_,_,_,_,Z,Z,cB,cC⟩
theorem Wk.Q {W w:World}{G:GH}{H:List Itm}{v0:Value}{x0:(List Int)}(m:Mem W G w (H))(h0:RSl (RI .i64) G v0 x0){y:((List Int))}(hd:D.Q x0=some y):
  Calls Tryz.prog 107 #[v0] w (Res W G H (fun G' Ho v=>∃r0:Value,∃i0:Itm,Ho=[i0]∧r0=v∧Ow (RI .i64) 2 G' i0 r0 y)):=by
 refine As (args:=[v0]) (N:=21) [.tmp 2] Tryz.func107 Z Z (Nat.le_of_ble_eq_true Z) Z fun a f=> ?_
 unfold D.Q at hd
 refine Ac ?_
 refine Ad f Z fun a f=>Aa (Ac ?_)
 refine Ab f Z fun a f=>AZ Tryz.underlying94 f Z Z h0 fun a f=> ?_
 obtain⟨aa,ab,hd⟩:=bind_some hd
 refine Da (R:=(RI .i64)) m T42 Z (by decide) Z f Z Z Z ab fun ac ad w a m ae f=>Ad f Z fun a f=>Aa (Af (Ac ?_))
 refine Ab f Z fun a f=>AZ Tryz.underlying94 f Z Z h0 fun a f=>Ab f Z fun a f=>Aa ?_
 obtain⟨af,ag,hd⟩:=bind_some hd
 refine AC (fun a w=>∃ah:List Int,ah=af∧∃(ai:GH) (aj:Value) (ak:Itm),GLe G ai∧Fr a 21 [(3,aj)]∧Mem W ai w (ak::H)∧Ow (RI .i64) 2 ai ak aj ah) ?_ ?_
 ·refine Aj ?_
  refine AA (fun al a w=>∃am:List Int,∃an:Int,(am,an)=al∧∃(ao:GH) (ap:Value) (aq:Itm),GLe G ao∧Fr a 21 [(3,ap),(9,v0),(10,(.int .i64 (x0.length:Int))),(11,(.int .i64 an))]∧Mem W ao w (aq::H)∧Ow (RI .i64) 2 ao aq ap am) ag ⟨_,_,Z,_,ad,ac,gr,f.k Z,m,ae⟩ ?_
  clear ag f m
  rintro al ar au av a w ⟨am,an,rfl,ao,ap,aq,aw,f,m,ax⟩
  have h0:=rd1 aw h0
  refine Ac ?_
  refine Ah f Z Z AJ fun a f=>Aa (Af ?_)
  rcases Ae au with⟨ay,au⟩|⟨ay,au⟩
  ·refine Al f Z ay ?_
   refine Am ?_
   refine Af (Aj (Ac ?_))
   obtain⟨az,aA,au⟩:=bind_some au
   refine Bf T94 f Z Z Z h0 aA fun aB aC a aD aE f=> ?_
   subst aE
   refine AG m Pl3 f Z Z aD fun a f=>Ad f Z fun a f=>Aa (Ak ?_)
   refine Ab f Z fun a f=>Ab f Z fun a f=>A8 (R:=(RI .i64)) (xs:=([az]:List Int)) (RI.one _) m T42 f Z Z Z (by decide) (All2.cons Z (All2.nil _)) fun aF aG w a m aH f=> ?_
   obtain⟨aI,aJ,au⟩:=bind_some au
   refine Bo (RI.one _) 1 m ax Z T42 Z (by decide) f Z Z Z (Ow.src (j:=0) aH m Z) aJ fun aK aL w a m aM f=>Ad f Z fun a f=>Aa (Ak ?_)
   refine Ah f Z Z Ar fun a f=>Ab f Z fun a f=>Aa ?_
   have m:=m.front 1 rfl
   have m:=m.eraseAt 1
   obtain rfl:=sj au
   exact⟨_,Z,_,_,Z,_,aL,aK,aw,f.k Z,m,aM⟩
  ·refine Ai f Z ay ?_
   refine Ax Z ?_
   obtain rfl:=sj au
   obtain rfl:=av _ rfl
   exact⟨_,Z,_,ap,aq,aw,f.k Z,m,ax⟩
 ·rintro a w ⟨ah,rfl,ai,aj,ak,aN,f,m,aO⟩
  refine Ac ?_
  refine Ab f Z fun a f=>Ad f Z fun a f=>Aa ?_
  refine Aq ?_
  obtain rfl:=sj hd
  exact⟨[aj],⟨f.get _ _ Z,trivial⟩,f.defers,_,[ak],aN,m,_,_,Z,Z,aO⟩
theorem Wk.H {W w:World}{G:GH}{H:List Itm}{x0:Int}(hW:CP W)(m:Mem W G w (H)){y:((List Int))}(hd:D.H x0=some y):
  Calls Tryz.prog 124 #[(.int .u32 x0)] w (Res W G H (fun G' Ho v=>∃r0:Value,∃i0:Itm,Ho=[i0]∧r0=v∧Ow (RI .i64) 2 G' i0 r0 y)):=by
 refine As (args:=[(.int .u32 x0)]) (N:=6) [.tmp 2] Tryz.func124 Z Z (Nat.le_of_ble_eq_true Z) Z fun a f=> ?_
 unfold D.H at hd
 refine Ac ?_
 refine Ad f Z fun a f=>Aa (Ac ?_)
 refine Ab f Z fun a f=> ?_
 obtain⟨aa,ab,hd⟩:=bind_some hd
 refine AK f Z Tryz.call103 (Wk.i hW m ab) fun ac ad ae w af m ag a f=> ?_
 obtain⟨ah,ai,rfl,rfl,aj⟩:=ag
 obtain⟨ak,al,hd⟩:=bind_some hd
 refine AK f Z Tryz.call107 (Ow.lendCall (RI.mono _) 0 aj m Z (fun am an m ao=>Wk.Q m ao al) (fun _ G' _ _ ⟨a0,a1,e1,e2,o0⟩=>⟨a0,a1,e1,e2,Ow.free (RI.free _) G' o0⟩)) fun ap aq ar w au m av a f=> ?_
 obtain⟨aw,ax,rfl,rfl,ay⟩:=av
 have aj:=od1 au aj
 refine Ad f Z fun a f=>Aa ?_
 refine Aq ?_
 have m:=m.eraseAt 1
 obtain rfl:=sj hd
 exact⟨[aw],⟨f.get _ _ Z,trivial⟩,f.defers,_,[ax],(gt af au),m,_,_,Z,Z,ay⟩
theorem Wk.R {W w:World}{G:GH}{H:List Itm}{x0:Int}{x1:Int}(m:Mem W G w (H)){y:((List Int))}(hd:D.R x0 x1=some y):
  Calls Tryz.prog 56 #[(.int .i64 x0),(.int .i64 x1)] w (Res W G H (fun G' Ho v=>∃r0:Value,∃i0:Itm,Ho=[i0]∧r0=v∧Ow (RI .i64) 2 G' i0 r0 y)):=by
 refine As (args:=[(.int .i64 x0),(.int .i64 x1)]) (N:=12) [.tmp 4] Tryz.func56 Z Z (Nat.le_of_ble_eq_true Z) Z fun a f=> ?_
 unfold D.R at hd
 refine Ac ?_
 refine Ad f Z fun a f=>Aa (Ac ?_)
 refine Ab f Z fun a f=>Ab f Z fun a f=>l_o f (r_min2 (f.eval Z) (f.eval Z)) fun a f=>Ab f Z fun a f=>Ab f Z fun a f=>l_o f (r_max2 (f.eval Z) (f.eval Z)) fun a f=>A8 (R:=(RI .i64)) (xs:=([(if x1<x0 then x1 else x0),(if x0<x1 then x1 else x0)]:List Int)) (RI.one _) m T42 f Z Z Z (by decide) (All2.cons Z (All2.cons Z (All2.nil _))) fun aa ab w a m ac f=>Ad f Z fun a f=>Aa ?_
 refine Aq ?_
 obtain rfl:=sj hd
 exact⟨[ab],⟨f.get _ _ Z,trivial⟩,f.defers,_,[aa],gr,m,_,_,Z,Z,ac⟩
theorem Wk.d1 {W w:World}{G:GH}{H:List Itm}{v0:Value}{it0:Itm}{x0:(List (Value×List Int))}{x1:Int}{x2:Int}(m:Mem W G w (it0::H))(o0:Ow (RTg (RI .i64)) 42 G it0 v0 x0){y:((List (Value×List Int)))}(hd:D.d1 x0 x1 x2=some y):
  Calls Tryz.prog 154 #[v0,(.int .i64 x1),(.int .i64 x2),(.func (.func 58) #[] #[])] w (Res W G H (fun G' Ho _=>∃i0:Itm,Ho=[i0]∧Ow (RTg (RI .i64)) 42 G' i0 v0 y)):=by
 refine As (args:=[v0,(.int .i64 x1),(.int .i64 x2),(.func (.func 58) #[] #[])]) (N:=53) [] Tryz.func154 Z Z (Nat.le_of_ble_eq_true Z) Z fun a f=> ?_
 unfold D.d1 at hd
 refine Ac ?_
 refine Ab f Z fun a f=>Ah f Z Z Ar fun a f=>Ad f Z fun a f=>Aa ?_
 obtain⟨aa,ab,hd⟩:=bind_some hd
 refine AC (fun a w=>∃ac:List (Value×List Int),ac=aa∧∃(ad:GH) (ae:Itm),GLe G ad∧Fr a 53 []∧Mem W ad w (ae::H)∧Ow (RTg (RI .i64)) 42 ad ae v0 ac) ?_ ?_
 ·refine Aj ?_
  refine AA (fun af a w=>∃ag:List (Value×List Int),∃ah:Int,(ag,ah)=af∧∃(ai:GH) (aj:Itm),GLe G ai∧Fr a 53 [(0,v0),(1,(.int .i64 x1)),(2,(.int .i64 x2)),(3,(.func (.func 58) #[] #[])),(8,(.int .i64 ah))]∧Mem W ai w (aj::H)∧Ow (RTg (RI .i64)) 42 ai aj v0 ag) ab ⟨_,_,Z,_,it0,gr,f.k Z,m,o0⟩ ?_
  clear ab f m
  rintro af ak al am a w ⟨ag,ah,rfl,ai,aj,an,f,m,ao⟩
  refine Af (Ac ?_)
  refine Ab f Z fun a f=>Ab f Z fun a f=>Ah f Z Z AJ fun a f=>Aa ?_
  rcases Ae al with⟨ap,al⟩|⟨ap,al⟩
  ·refine Al f Z ap ?_
   refine Am ?_
   refine Af (Aj (Ac ?_))
   refine Ab f Z fun a f=>Ad f Z fun a f=>Aa ?_
   obtain⟨aq,ar,al⟩:=bind_some al
   refine AC (fun a w=>∃au:List (Value×List Int),au=aq∧∃(av:GH) (aw:Itm),GLe ai av∧Fr a 53 [(0,v0),(1,(.int .i64 x1)),(2,(.int .i64 x2)),(3,(.func (.func 58) #[] #[])),(8,(.int .i64 ah))]∧Mem W av w (aw::H)∧Ow (RTg (RI .i64)) 42 av aw v0 au) ?_ ?_
   ·refine Aj ?_
    refine AA (fun ax a w=>∃ay:List (Value×List Int),∃az:Int,(ay,az)=ax∧∃(aA:GH) (aB:Itm),GLe ai aA∧Fr a 53 [(0,v0),(1,(.int .i64 x1)),(2,(.int .i64 x2)),(3,(.func (.func 58) #[] #[])),(8,(.int .i64 ah)),(9,(.int .i64 az))]∧Mem W aA w (aB::H)∧Ow (RTg (RI .i64)) 42 aA aB v0 ay) ar ⟨_,_,Z,_,aj,gr,f.k Z,m,ao⟩ ?_
    clear ar f m
    rintro ax aC aD aE a w ⟨ay,az,rfl,aA,aB,aF,f,m,aG⟩
    refine Af (Af ?_)
    refine AT 17 Aw (by kernel_rfl) m ?_
    refine Ag 0 17 Z f Z fun a f=>Ag 1 17 Z f Z fun a f=>q_p 2 17 Z f (fun _=>AD (f.eval Z) (f.eval Z) BV) fun a f=>Ag 3 17 Z f Z fun a f=> ?_
    obtain⟨aH,aI,aD⟩:=bind_some aD
    refine BN (fuel':=0) (listed':= #[true,true,true,true,true,true,true,true,true,true,true,true,true,true,true,true,true]) (fun a=>Fr a 53 [(0,v0),(1,(.int .i64 x1)),(2,(.int .i64 x2)),(3,(.func (.func 58) #[] #[])),(8,(.int .i64 ah)),(9,(.int .i64 az)),(18,(.int .i64 az)),(19,(.int .i64 x1)),(20,(.bool (decide (x1<az)))),(21,(.bool (decide (x1<az)))),(34,(.bool aH))]) ?_ ?_
    ·intro a f
     refine AI fun aJ w aK m=> ?_
     have aG:=Ow.mono (RTg.mono (RI.mono _)) aK aG
     refine Aa ?_
     rcases Ae aD with⟨aL,aD⟩|⟨aL,aD⟩
     ·refine Al f Z aL ?_
      refine Am ?_
      refine Af (Aj ?_)
      refine Bv Aw m ?_
      refine p_p 2 Z (by kernel_rfl) f Z Z Z (fun _=>AX (f.eval Z)) fun a f=>p_p 3 Z (by kernel_rfl) f Z Z Z (fun _=>AX (f.eval Z)) fun a f=>p_p 4 Z (by kernel_rfl) f Z Z Z (fun _=>AD (f.eval Z) (f.eval Z) AH) fun a f=>Bu 28015 12 (by kernel_rfl) Z ?_
      refine Ag 0 28015 Z f Z fun a f=>Ag 1 28015 Z f Z fun a f=>Ag 5 28015 Z f Z fun a f=>Ag 6 28015 Z f Z fun a f=>q_p 7 28015 Z f (fun _=>AD (f.eval Z) (f.eval Z) AH) fun a f=> ?_
      obtain⟨aM,aN,aD⟩:=bind_some aD
      refine Az 8 28015 0 m aG T22 aN Z f Z Z fun aO a aP f=>AL 9 28015 0 aG AY aP aN Z f Z fun aQ a aR f=>Ag 10 28015 Z f Z fun a f=>Ag 11 28015 Z f Z fun a f=> ?_
      obtain⟨aS,aT,aD⟩:=bind_some aD
      refine Az 12 28015 0 m aG T22 aT Z f Z Z fun aU a aV f=>AL 13 28015 0 aG AY aV aT Z f Z fun aW a aX f=> ?_
      obtain⟨aY,aZ,aD⟩:=bind_some aD
      refine Az 14 28015 0 m aG T22 aZ Z f Z Z fun a0 a a1 f=>AI fun a2 w a3 m=> ?_
      have aR:=(RTg.mono (RI.mono _)) _ _ _ _ a3 aR
      have aX:=(RTg.mono (RI.mono _)) _ _ _ _ a3 aX
      have aG:=Ow.mono (RTg.mono (RI.mono _)) a3 aG
      refine Au 0 m aG Z Tryz.sizeOf42 f Z Z a1 aZ aR.cells aR.one1 aR fun a4 w m a5=> ?_
      obtain⟨a6,a7,aD⟩:=bind_some aD
      refine AW 0 m a5 Z T22 f Z Z Z a7 fun a8 a a9 f=>Au 0 m a5 Z Tryz.sizeOf42 f Z Z a9 a7 aX.cells aX.one1 aX fun ba w m bb=>Aa (Ak ?_)
      refine Ab f Z fun a f=>Ah f Z Z AH fun a f=>Ad f Z fun a f=>Aa ?_
      obtain rfl:=sj aD
      exact⟨_,Z,_,_,Z,_,ba,(gt aF (gt aK a3)),f.k Z,m,bb⟩
     ·refine Ai f Z aL ?_
      refine Ax Z ?_
      obtain rfl:=sj aD
      obtain rfl:=aE _ rfl
      exact⟨_,Z,_,aB,(gt aF aK),f.k Z,m,aG⟩
    ·intro bc
     rcases Ae aI with⟨bd,aI⟩|⟨bd,aI⟩
     ·refine Ag (hw:=wo f bd) 4 17 Z f Z fun a f=> ?_
      refine Ag (hw:=wo f bd) 5 17 Z f Z fun a f=>Ag (hw:=wo f bd) 6 17 Z f Z fun a f=> ?_
      obtain⟨be,bf,aI⟩:=bind_some aI
      refine Az (hw:=wo f bd) 7 17 0 m aG T22 bf Z f Z Z fun bg a bh f=>AL (hw:=wo f bd) 8 17 0 aG AY bh bf Z f Z fun bi a bj f=>Ag (hw:=wo f bd) 9 17 Z f Z fun a f=>Ag (hw:=wo f bd) 10 17 Z f Z fun a f=>q_p (hw:=wo f bd) 11 17 Z f (fun _=>AD (f.eval Z) (f.eval Z) AH) fun a f=> ?_
      obtain⟨bk,bl,aI⟩:=bind_some aI
      refine Az (hw:=wo f bd) 12 17 0 m aG T22 bl Z f Z Z fun bm a bn f=>AL (hw:=wo f bd) 13 17 0 aG AY bn bl Z f Z fun bo a bp f=> ?_
      obtain⟨bq,br,aI⟩:=bind_some aI
      refine Ck (i:=14) 17 Z (by kernel_rfl) Z f (AQ f Z Z Z bd) Z Z Z Tryz.call58 (fun _ _ w bs m=>Wk.a m (rd1 bs (bj.2)) (rd1 bs (bp.2)) br) fun a f=>q_p (hw:=wo f bd) 15 17 Z f (fun _=>AD (f.eval Z) (f.eval Z) AJ) fun a f=>q_p 16 17 Z f (fun _=>AO (f.eval Z) bd (f.eval Z)) fun a f=> ?_
      obtain rfl:=sj aI
      exact bc _ (f.k Z)
     ·refine An 4 17 Z f bd fun a f=> ?_
      refine An 5 17 Z f bd fun a f=>An 6 17 Z f bd fun a f=>An 7 17 Z f bd fun a f=>An 8 17 Z f bd fun a f=>An 9 17 Z f bd fun a f=>An 10 17 Z f bd fun a f=>An 11 17 Z f bd fun a f=>An 12 17 Z f bd fun a f=>An 13 17 Z f bd fun a f=>An 14 17 Z f bd fun a f=>An 15 17 Z f bd fun a f=>q_p 16 17 Z f (fun _=>AP (f.eval Z) bd (f.eval Z)) fun a f=> ?_
      obtain rfl:=sj aI
      exact bc _ (f.k Z)
   ·rintro a w ⟨au,rfl,av,aw,bt,f,m,bu⟩
    refine Ak ?_
    refine Ab f Z fun a f=>Ah f Z Z Ar fun a f=>Ad f Z fun a f=>Aa ?_
    obtain rfl:=sj al
    exact⟨_,Z,_,_,Z,_,aw,(gt an bt),f.k Z,m,bu⟩
  ·refine Ai f Z ap ?_
   refine Ax Z ?_
   obtain rfl:=sj al
   obtain rfl:=am _ rfl
   exact⟨_,Z,_,aj,an,f.weak trivial,m,ao⟩
 ·rintro a w ⟨ac,rfl,ad,ae,bv,f,m,bw⟩
  obtain rfl:=sj hd
  exact⟨[],trivial,f.defers,_,[ae],bv,m,_,Z,bw⟩
theorem Wk.r0 {W w:World}{G:GH}{H:List Itm}{v0:Value}{it0:Itm}{x0:(List (Value×List Int))}{x1:Int}{x2:Int}{x3:Int}(m:Mem W G w (it0::H))(o0:Ow (RTg (RI .i64)) 42 G it0 v0 x0){y:((List (Value×List Int)))}(hd:D.r0 x0 x1 x2 x3=some y):
  Calls Tryz.prog 189 #[v0,(.int .i64 x1),(.int .i64 x2),(.int .i64 x3),(.func (.func 58) #[] #[])] w (Res W G H (fun G' Ho _=>∃i0:Itm,Ho=[i0]∧Ow (RTg (RI .i64)) 42 G' i0 v0 y)):=by
 refine As (args:=[v0,(.int .i64 x1),(.int .i64 x2),(.int .i64 x3),(.func (.func 58) #[] #[])]) (N:=82) [] Tryz.func189 Z Z (Nat.le_of_ble_eq_true Z) Z fun a f=> ?_
 unfold D.r0 at hd
 refine Ac ?_
 refine Ab f Z fun a f=>Ad f Z fun a f=>Aa ?_
 obtain⟨aa,ab,hd⟩:=bind_some hd
 refine AC (fun a w=>∃q_182':(List (Value×List Int)),aa= .inl q_182'∧∃ac:List (Value×List Int),ac=q_182'∧∃(ad:GH) (ae:Itm),GLe G ad∧Fr a 82 []∧Mem W ad w (ae::H)∧Ow (RTg (RI .i64)) 42 ad ae v0 ac) ?_ ?_
 ·refine Aj ?_
  refine AA (fun af a w=>∃ag:List (Value×List Int),∃ah:Int,(ag,ah)=af∧∃(ai:GH) (aj:Itm),GLe G ai∧Fr a 82 [(0,v0),(2,(.int .i64 x2)),(3,(.int .i64 x3)),(4,(.func (.func 58) #[] #[])),(10,(.int .i64 ah))]∧Mem W ai w (aj::H)∧Ow (RTg (RI .i64)) 42 ai aj v0 ag) ab ⟨_,_,Z,_,it0,gr,f.k Z,m,o0⟩ ?_
  clear ab f m
  rintro af ak al am a w ⟨ag,ah,rfl,ai,aj,an,f,m,ao⟩
  refine Aj (Ac ?_)
  refine Ab f Z fun a f=>Ah f Z Z CH fun a f=>Ah f Z Z Ar fun a f=>Ad f Z fun a f=>Aa (Af (Ac ?_))
  refine Ab f Z fun a f=>Ab f Z fun a f=>Ah f Z Z BM fun a f=>Aa ?_
  rcases Ae al with⟨ap,al⟩|⟨ap,al⟩
  ·refine Al f Z ap ?_
   refine Ax Z ?_
   obtain rfl:=sj al
   obtain rfl:=am _ rfl
   exact⟨_,Z,_,Z,_,aj,an,f.weak trivial,m,ao⟩
  ·refine Ai f Z ap ?_
   refine Am ?_
   refine Af (Af ?_)
   refine AT 22 Aw (by kernel_rfl) m ?_
   refine Ag 0 22 Z f Z fun a f=>q_p 1 22 Z f (fun _=>AD (f.eval Z) (f.eval Z) Ar) fun a f=>Ag 2 22 Z f Z fun a f=>q_p 3 22 Z f (fun _=>AD (f.eval Z) (f.eval Z) AJ) fun a f=>Ag 4 22 Z f Z fun a f=> ?_
   obtain⟨aq,ar,al⟩:=bind_some al
   refine BN (fuel':=0) (listed':= #[true,true,true,true,true,true,true,true,true,true,true,true,true,true,true,true,true,true,true,true,true,true]) (fun a=>Fr a 82 [(0,v0),(2,(.int .i64 x2)),(3,(.int .i64 x3)),(4,(.func (.func 58) #[] #[])),(10,(.int .i64 ah)),(11,(.int .i64 (IntKind.i64.wrap ((IntKind.i64.wrap (2*ah))+1)))),(18,(.bool (decide (x2≤(IntKind.i64.wrap ((IntKind.i64.wrap (2*ah))+1)))))),(19,(.int .i64 (IntKind.i64.wrap ((IntKind.i64.wrap (2*ah))+1)))),(20,(.int .i64 (IntKind.i64.wrap ((IntKind.i64.wrap ((IntKind.i64.wrap (2*ah))+1))+1)))),(21,(.int .i64 x2)),(22,(.bool (decide ((IntKind.i64.wrap ((IntKind.i64.wrap ((IntKind.i64.wrap (2*ah))+1))+1))<x2)))),(23,(.bool (decide ((IntKind.i64.wrap ((IntKind.i64.wrap ((IntKind.i64.wrap (2*ah))+1))+1))<x2)))),(40,(.bool aq))]) ?_ ?_
   ·intro a f
    refine AI fun au w av m=> ?_
    have ao:=Ow.mono (RTg.mono (RI.mono _)) av ao
    refine Aa ?_
    obtain⟨aw,ax,al⟩:=bind_some al
    refine AC (fun a w=>∃ay:Int,ay=aw∧∃(az:GH),GLe au az∧Fr a 82 [(0,v0),(2,(.int .i64 x2)),(3,(.int .i64 x3)),(4,(.func (.func 58) #[] #[])),(10,(.int .i64 ah)),(11,(.int .i64 ay))]∧Mem W az w (aj::H)) ?_ ?_
    ·rcases Ae ax with⟨aA,ax⟩|⟨aA,ax⟩
     ·refine Al f Z aA ?_
      refine Ak ?_
      refine Ab f Z fun a f=>Ah f Z Z Ar fun a f=>Ad f Z fun a f=>Aa ?_
      obtain rfl:=sj ax
      exact⟨_,Z,_,gr,f.k Z,m⟩
     ·refine Ai f Z aA ?_
      refine Am ?_
      obtain rfl:=sj ax
      exact⟨_,Z,_,gr,f.k Z,m⟩
    ·rintro a w ⟨ay,rfl,az,aB,f,m⟩
     have ao:=Ow.mono (RTg.mono (RI.mono _)) aB ao
     refine Af (Af ?_)
     refine AT 16 Aw (by kernel_rfl) m ?_
     refine Ag 0 16 Z f Z fun a f=>Ag 1 16 Z f Z fun a f=>Ag 2 16 Z f Z fun a f=>Ag 3 16 Z f Z fun a f=>q_p 4 16 Z f (fun _=>AD (f.eval Z) (f.eval Z) Ar) fun a f=> ?_
     obtain⟨aC,aD,al⟩:=bind_some al
     refine Az 5 16 0 m ao T22 aD Z f Z Z fun aE a aF f=>AL 6 16 0 ao AY aF aD Z f Z fun aG a aH f=>Ag 7 16 Z f Z fun a f=>Ag 8 16 Z f Z fun a f=>Ag 9 16 Z f Z fun a f=>q_p 10 16 Z f (fun _=>AD (f.eval Z) (f.eval Z) Ar) fun a f=> ?_
     obtain⟨aI,aJ,al⟩:=bind_some al
     refine Az 11 16 0 m ao T22 aJ Z f Z Z fun aK a aL f=>AL 12 16 0 ao AY aL aJ Z f Z fun aM a aN f=> ?_
     obtain⟨aO,aP,al⟩:=bind_some al
     refine Ck (i:=13) 16 Z (by kernel_rfl) Z f Z Z Z Z Tryz.call58 (fun _ _ w aQ m=>Wk.a m (rd1 aQ (aH.2)) (rd1 aQ (aN.2)) aP) fun a f=>q_p 14 16 Z f (fun _=>AD (f.eval Z) (f.eval Z) AJ) fun a f=>q_p 15 16 Z f (fun _=>Bd (f.eval Z)) fun a f=>AI fun aR w aS m=> ?_
     have aH:=(RTg.mono (RI.mono _)) _ _ _ _ aS aH
     have aN:=(RTg.mono (RI.mono _)) _ _ _ _ aS aN
     have ao:=Ow.mono (RTg.mono (RI.mono _)) aS ao
     refine Aa ?_
     rcases Ae al with⟨aT,al⟩|⟨aT,al⟩
     ·refine Al f Z aT ?_
      refine Aq ?_
      obtain rfl:=sj al
      obtain rfl:=am _ rfl
      obtain rfl:=sj hd
      exact⟨[],trivial,f.defers,_,[aj],(gt an (gt av (gt aB aS))),m,_,Z,ao⟩
     ·refine Ai f Z aT ?_
      refine Am ?_
      refine Af ?_
      refine Bv Aw m ?_
      refine p_p 4 Z (by kernel_rfl) f Z Z Z (fun _=>AX (f.eval Z)) fun a f=>p_p 5 Z (by kernel_rfl) f Z Z Z (fun _=>AX (f.eval Z)) fun a f=>p_p 6 Z (by kernel_rfl) f Z Z Z (fun _=>AX (f.eval Z)) fun a f=>p_p 7 Z (by kernel_rfl) f Z Z Z (fun _=>AD (f.eval Z) (f.eval Z) Ar) fun a f=>Bu 240021 17 (by kernel_rfl) Z ?_
      refine Ag 0 240021 Z f Z fun a f=>Ag 1 240021 Z f Z fun a f=>Ag 2 240021 Z f Z fun a f=>q_p 3 240021 Z f (fun _=>AD (f.eval Z) (f.eval Z) Ar) fun a f=>Ag 8 240021 Z f Z fun a f=>Ag 9 240021 Z f Z fun a f=>Ag 10 240021 Z f Z fun a f=>q_p 11 240021 Z f (fun _=>AD (f.eval Z) (f.eval Z) Ar) fun a f=> ?_
      obtain⟨aU,aV,al⟩:=bind_some al
      refine Az 12 240021 0 m ao T22 aV Z f Z Z fun aW a aX f=>AL 13 240021 0 ao AY aX aV Z f Z fun aY a aZ f=>Ag 14 240021 Z f Z fun a f=>Ag 15 240021 Z f Z fun a f=>Ag 16 240021 Z f Z fun a f=>q_p 17 240021 Z f (fun _=>AD (f.eval Z) (f.eval Z) Ar) fun a f=> ?_
      obtain⟨a0,a1,al⟩:=bind_some al
      refine Az 18 240021 0 m ao T22 a1 Z f Z Z fun a2 a a3 f=>AL 19 240021 0 ao AY a3 a1 Z f Z fun a4 a a5 f=> ?_
      obtain⟨a6,a7,al⟩:=bind_some al
      refine Az 20 240021 0 m ao T22 a7 Z f Z Z fun a8 a a9 f=>AI fun ba w bb m=> ?_
      have aZ:=(RTg.mono (RI.mono _)) _ _ _ _ bb aZ
      have a5:=(RTg.mono (RI.mono _)) _ _ _ _ bb a5
      have ao:=Ow.mono (RTg.mono (RI.mono _)) bb ao
      refine Au 0 m ao Z Tryz.sizeOf42 f Z Z a9 a7 aZ.cells aZ.one1 aZ fun bc w m bd=> ?_
      obtain⟨be,bf,al⟩:=bind_some al
      refine AW 0 m bd Z T22 f Z Z Z bf fun bg a bh f=>Au 0 m bd Z Tryz.sizeOf42 f Z Z bh bf a5.cells a5.one1 a5 fun bi w m bj=>Aa (Ak ?_)
      refine Ab f Z fun a f=>Ad f Z fun a f=>Aa ?_
      obtain rfl:=sj al
      exact⟨_,Z,_,_,Z,_,bi,(gt an (gt av (gt aB (gt aS bb)))),f.k Z,m,bj⟩
   ·intro bk
    rcases Ae ar with⟨bl,ar⟩|⟨bl,ar⟩
    ·refine Ag (hw:=wo f bl) 5 22 Z f Z fun a f=> ?_
     refine Ag (hw:=wo f bl) 6 22 Z f Z fun a f=>Ag (hw:=wo f bl) 7 22 Z f Z fun a f=>Ag (hw:=wo f bl) 8 22 Z f Z fun a f=>q_p (hw:=wo f bl) 9 22 Z f (fun _=>AD (f.eval Z) (f.eval Z) Ar) fun a f=> ?_
     obtain⟨bm,bn,ar⟩:=bind_some ar
     refine Az (hw:=wo f bl) 10 22 0 m ao T22 bn Z f Z Z fun bo a bp f=>AL (hw:=wo f bl) 11 22 0 ao AY bp bn Z f Z fun bq a br f=>Ag (hw:=wo f bl) 12 22 Z f Z fun a f=>Ag (hw:=wo f bl) 13 22 Z f Z fun a f=>Ag (hw:=wo f bl) 14 22 Z f Z fun a f=>q_p (hw:=wo f bl) 15 22 Z f (fun _=>AD (f.eval Z) (f.eval Z) Ar) fun a f=>q_p (hw:=wo f bl) 16 22 Z f (fun _=>AD (f.eval Z) (f.eval Z) Ar) fun a f=> ?_
     obtain⟨bs,bt,ar⟩:=bind_some ar
     refine Az (hw:=wo f bl) 17 22 0 m ao T22 bt Z f Z Z fun bu a bv f=>AL (hw:=wo f bl) 18 22 0 ao AY bv bt Z f Z fun bw a bx f=> ?_
     obtain⟨bz,bA,ar⟩:=bind_some ar
     refine Ck (i:=19) 22 Z (by kernel_rfl) Z f (AQ f Z Z Z bl) Z Z Z Tryz.call58 (fun _ _ w bB m=>Wk.a m (rd1 bB (br.2)) (rd1 bB (bx.2)) bA) fun a f=>q_p (hw:=wo f bl) 20 22 Z f (fun _=>AD (f.eval Z) (f.eval Z) AJ) fun a f=>q_p 21 22 Z f (fun _=>AO (f.eval Z) bl (f.eval Z)) fun a f=> ?_
     obtain rfl:=sj ar
     exact bk _ (f.k Z)
    ·refine An 5 22 Z f bl fun a f=> ?_
     refine An 6 22 Z f bl fun a f=>An 7 22 Z f bl fun a f=>An 8 22 Z f bl fun a f=>An 9 22 Z f bl fun a f=>An 10 22 Z f bl fun a f=>An 11 22 Z f bl fun a f=>An 12 22 Z f bl fun a f=>An 13 22 Z f bl fun a f=>An 14 22 Z f bl fun a f=>An 15 22 Z f bl fun a f=>An 16 22 Z f bl fun a f=>An 17 22 Z f bl fun a f=>An 18 22 Z f bl fun a f=>An 19 22 Z f bl fun a f=>An 20 22 Z f bl fun a f=>q_p 21 22 Z f (fun _=>AP (f.eval Z) bl (f.eval Z)) fun a f=> ?_
     obtain rfl:=sj ar
     exact bk _ (f.k Z)
 ·rintro a w ⟨_,rfl,ac,rfl,ad,ae,bC,f,m,bD⟩
  obtain rfl:=sj hd
  exact⟨[],trivial,f.defers,_,[ae],bC,m,_,Z,bD⟩
theorem Wk.h1 {W w:World}{G:GH}{H:List Itm}{v0:Value}{it0:Itm}{x0:(List (Value×List Int))}{x1:Int}{x2:Int}(m:Mem W G w (it0::H))(o0:Ow (RTg (RI .i64)) 42 G it0 v0 x0){y:((List (Value×List Int)))}(hd:D.h1 x0 x1 x2=some y):
  Calls Tryz.prog 155 #[v0,(.int .i64 x1),(.int .i64 x2),(.func (.func 58) #[] #[])] w (Res W G H (fun G' Ho _=>∃i0:Itm,Ho=[i0]∧Ow (RTg (RI .i64)) 42 G' i0 v0 y)):=by
 refine As (args:=[v0,(.int .i64 x1),(.int .i64 x2),(.func (.func 58) #[] #[])]) (N:=60) [] Tryz.func155 Z Z (Nat.le_of_ble_eq_true Z) Z fun a f=> ?_
 unfold D.h1 at hd
 refine Ac ?_
 refine Ab f Z fun a f=>Ad f Z fun a f=>Aa (Ac ?_)
 refine Ad f Z fun a f=>Aa (Ac ?_)
 refine Ab f Z fun a f=>Ab f Z fun a f=>Ah f Z Z AH fun a f=>Ad f Z fun a f=>Aa (Af (Ac ?_))
 refine Ab f Z fun a f=>Ah f Z Z AH fun a f=>Ah f Z Z (CW Z) fun a f=>Ad f Z fun a f=>Aa ?_
 obtain⟨aa,ab,hd⟩:=bind_some hd
 refine AC (fun a w=>∃ac:List (Value×List Int),ac=aa∧∃(ad:GH) (ae:Itm),GLe G ad∧Fr a 60 [(0,v0),(3,(.func (.func 58) #[] #[])),(8,(.int .i64 x1)),(9,(.int .i64 0)),(10,(.int .i64 (IntKind.i64.wrap (x2-x1))))]∧Mem W ad w (ae::H)∧Ow (RTg (RI .i64)) 42 ad ae v0 ac) ?_ ?_
 ·refine Aj ?_
  refine AA (fun af a w=>∃ag:List (Value×List Int),∃ah:Int,(ag,ah)=af∧∃(ai:GH) (aj:Itm),GLe G ai∧Fr a 60 [(0,v0),(3,(.func (.func 58) #[] #[])),(8,(.int .i64 x1)),(9,(.int .i64 0)),(10,(.int .i64 (IntKind.i64.wrap (x2-x1)))),(11,(.int .i64 ah))]∧Mem W ai w (aj::H)∧Ow (RTg (RI .i64)) 42 ai aj v0 ag) ab ⟨_,_,Z,_,it0,gr,f.k Z,m,o0⟩ ?_
  clear ab f m
  rintro af ak al am a w ⟨ag,ah,rfl,ai,aj,an,f,m,ao⟩
  refine Af (Ac ?_)
  refine Ab f Z fun a f=>Ah f Z Z BM fun a f=>Aa ?_
  rcases Ae al with⟨ap,al⟩|⟨ap,al⟩
  ·refine Al f Z ap ?_
   refine Am ?_
   refine Af (Aj (Ak ?_))
   refine Ab f Z fun a f=>Ab f Z fun a f=>Ab f Z fun a f=>Ab f Z fun a f=>Ab f Z fun a f=> ?_
   obtain⟨aq,ar,al⟩:=bind_some al
   refine AK f Z Tryz.call189 (Wk.r0 m ao ar) fun au av aw w ax m ay a f=> ?_
   obtain⟨az,rfl,aA⟩:=ay
   refine Aa (Ak ?_)
   refine Ab f Z fun a f=>Ah f Z Z AH fun a f=>Ad f Z fun a f=>Aa ?_
   obtain rfl:=sj al
   exact⟨_,Z,_,_,Z,_,az,(gt an ax),f.k Z,m,aA⟩
  ·refine Ai f Z ap ?_
   refine Ax Z ?_
   obtain rfl:=sj al
   obtain rfl:=am _ rfl
   exact⟨_,Z,_,aj,an,f.k Z,m,ao⟩
 ·rintro a w ⟨ac,rfl,ad,ae,aB,f,m,aC⟩
  refine Ac ?_
  refine Ab f Z fun a f=>Ah f Z Z AH fun a f=>Ad f Z fun a f=>Aa ?_
  obtain⟨aD,aE,hd⟩:=bind_some hd
  refine AC (fun a w=>∃aF:List (Value×List Int),aF=aD∧∃(aG:GH) (aH:Itm),GLe ad aG∧Fr a 60 []∧Mem W aG w (aH::H)∧Ow (RTg (RI .i64)) 42 aG aH v0 aF) ?_ ?_
  ·refine Aj ?_
   refine AA (fun aI a w=>∃aJ:List (Value×List Int),∃aK:Int,(aJ,aK)=aI∧∃(aL:GH) (aM:Itm),GLe ad aL∧Fr a 60 [(0,v0),(3,(.func (.func 58) #[] #[])),(8,(.int .i64 x1)),(9,(.int .i64 0)),(12,(.int .i64 aK))]∧Mem W aL w (aM::H)∧Ow (RTg (RI .i64)) 42 aL aM v0 aJ) aE ⟨_,_,Z,_,ae,gr,f.k Z,m,aC⟩ ?_
   clear aE f m
   rintro aI aN aO aP a w ⟨aJ,aK,rfl,aL,aM,aQ,f,m,aR⟩
   refine Af (Ac ?_)
   refine Ab f Z fun a f=>Ah f Z Z BM fun a f=>Aa ?_
   rcases Ae aO with⟨aS,aO⟩|⟨aS,aO⟩
   ·refine Al f Z aS ?_
    refine Am ?_
    refine Af (Aj (Af ?_))
    refine Bv Aw m ?_
    refine p_p 2 Z (by kernel_rfl) f Z Z Z (fun _=>AX (f.eval Z)) fun a f=>p_p 3 Z (by kernel_rfl) f Z Z Z (fun _=>AX (f.eval Z)) fun a f=>p_p 4 Z (by kernel_rfl) f Z Z Z (fun _=>AX (f.eval Z)) fun a f=>p_p 5 Z (by kernel_rfl) f Z Z Z (fun _=>AD (f.eval Z) (f.eval Z) Ar) fun a f=>Bu 60017 13 (by kernel_rfl) Z ?_
    refine Ag 0 60017 Z f Z fun a f=>Ag 1 60017 Z f Z fun a f=>Ag 6 60017 Z f Z fun a f=>Ag 7 60017 Z f Z fun a f=>Ag 8 60017 Z f Z fun a f=>q_p 9 60017 Z f (fun _=>AD (f.eval Z) (f.eval Z) Ar) fun a f=> ?_
    obtain⟨aT,aU,aO⟩:=bind_some aO
    refine Az 10 60017 0 m aR T22 aU Z f Z Z fun aV a aW f=>AL 11 60017 0 aR AY aW aU Z f Z fun aX a aY f=>Ag 12 60017 Z f Z fun a f=>Ag 13 60017 Z f Z fun a f=> ?_
    obtain⟨aZ,a0,aO⟩:=bind_some aO
    refine Az 14 60017 0 m aR T22 a0 Z f Z Z fun a1 a a2 f=>AL 15 60017 0 aR AY a2 a0 Z f Z fun a3 a a4 f=> ?_
    obtain⟨a5,a6,aO⟩:=bind_some aO
    refine Az 16 60017 0 m aR T22 a6 Z f Z Z fun a7 a a8 f=>AI fun a9 w ba m=> ?_
    have aY:=(RTg.mono (RI.mono _)) _ _ _ _ ba aY
    have a4:=(RTg.mono (RI.mono _)) _ _ _ _ ba a4
    have aR:=Ow.mono (RTg.mono (RI.mono _)) ba aR
    refine Au 0 m aR Z Tryz.sizeOf42 f Z Z a8 a6 aY.cells aY.one1 aY fun bb w m bc=> ?_
    obtain⟨bd,be,aO⟩:=bind_some aO
    refine AW 0 m bc Z T22 f Z Z Z be fun bf a bg f=>Au 0 m bc Z Tryz.sizeOf42 f Z Z bg be a4.cells a4.one1 a4 fun bh w m bi=>Aa (Ak ?_)
    refine Ab f Z fun a f=>Ab f Z fun a f=>Ab f Z fun a f=>Ab f Z fun a f=>Ab f Z fun a f=> ?_
    obtain⟨bj,bk,aO⟩:=bind_some aO
    refine AK f Z Tryz.call189 (Wk.r0 m bi bk) fun bl bm bn w bo m bp a f=> ?_
    obtain⟨bq,rfl,br⟩:=bp
    refine Aa (Ak ?_)
    refine Ab f Z fun a f=>Ah f Z Z AH fun a f=>Ad f Z fun a f=>Aa ?_
    obtain rfl:=sj aO
    exact⟨_,Z,_,_,Z,_,bq,(gt aQ (gt ba bo)),f.k Z,m,br⟩
   ·refine Ai f Z aS ?_
    refine Ax Z ?_
    obtain rfl:=sj aO
    obtain rfl:=aP _ rfl
    exact⟨_,Z,_,aM,aQ,f.weak trivial,m,aR⟩
  ·rintro a w ⟨aF,rfl,aG,aH,bs,f,m,bt⟩
   obtain rfl:=sj hd
   exact⟨[],trivial,f.defers,_,[aH],(gt aB bs),m,_,Z,bt⟩
theorem Wk.o1 {W w:World}{G:GH}{H:List Itm}{v0:Value}{it0:Itm}{x0:(List (Value×List Int))}{x1:Int}{x2:Int}(m:Mem W G w (it0::H))(o0:Ow (RTg (RI .i64)) 42 G it0 v0 x0){y:((List (Value×List Int)))}(hd:D.o1 x0 x1 x2=some y):
  Calls Tryz.prog 156 #[v0,(.int .i64 x1),(.int .i64 x2),(.func (.func 58) #[] #[])] w (Res W G H (fun G' Ho _=>∃i0:Itm,Ho=[i0]∧Ow (RTg (RI .i64)) 42 G' i0 v0 y)):=by
 refine As (args:=[v0,(.int .i64 x1),(.int .i64 x2),(.func (.func 58) #[] #[])]) (N:=67) [] Tryz.func156 Z Z (Nat.le_of_ble_eq_true Z) Z fun a f=> ?_
 unfold D.o1 at hd
 refine Ac ?_
 refine Ab f Z fun a f=>Ab f Z fun a f=>Ah f Z Z AH fun a f=>Ad f Z fun a f=>Aa (Ac ?_)
 refine Ab f Z fun a f=>Ah f Z Z BM fun a f=>Aa ?_
 rcases Ae hd with⟨aa,hd⟩|⟨aa,hd⟩
 ·refine Al f Z aa ?_
  refine Ac ?_
  refine Ab f Z fun a f=>l_o f (CT (f.eval Z) ⟨_,Tryz.underlying3⟩ Tryz.underlying190) fun a f=>Bx (cs:=[(.int .u64 0)]) Tryz.zeroValue190 m f Z Z fun ab w a m f=>AS 0 0 (ds:=[(.int .u64 (IntKind.u64.wrap (IntKind.i64.wrap (x2-x1))))]) m Tryz.sizeOf190 f Z Z Z (AN Z A3) Z (Nat.le_of_ble_eq_true Z) Z fun w m=>Aa (Ac ?_)
  refine Ab f Z fun a f=> ?_
  obtain⟨ac,ad,hd⟩:=bind_some hd
  refine Bi f Z Tryz.call190 (Wk.z m ad) fun ae w af m a f=> ?_
  have o0:=Ow.mono (RTg.mono (RI.mono _)) af o0
  refine Ad f Z fun a f=>Aa (Ac ?_)
  refine Ab f Z fun a f=>Ab f Z fun a f=>Ah f Z Z (CW Z) fun a f=>Ah f Z Z CH fun a f=>Ah f Z Z Ar fun a f=>Ah f Z Z AH fun a f=>Ad f Z fun a f=>Aa ?_
  obtain⟨ag,ah,hd⟩:=bind_some hd
  refine AC (fun a w=>∃ai:List (Value×List Int),ai=ag∧∃(aj:GH) (ak:Itm),GLe ae aj∧Fr a 67 []∧Mem W aj w (ak::H)∧Ow (RTg (RI .i64)) 42 aj ak v0 ai) ?_ ?_
  ·refine Aj ?_
   refine AA (fun al a w=>∃am:List (Value×List Int),∃an:Int,∃ao:Int,(am,an,ao)=al∧∃(ap:GH) (aq:Itm),GLe ae ap∧Fr a 67 [(0,v0),(1,(.int .i64 x1)),(8,(.int .i64 (IntKind.i64.wrap (x2-x1)))),(9,(.pointer (some ⟨ab,0,none⟩))),(10,(.int .u64 ac)),(11,(.int .i64 an))]∧Mem W ap w (Itm.box ab 190 [(.int .u64 ao)]::aq::H)∧Ow (RTg (RI .i64)) 42 ap aq v0 am) ah ⟨_,_,_,Z,_,it0,gr,f.k Z,m,o0⟩ ?_
   clear ah f m
   rintro al ar au av a w ⟨am,an,ao,rfl,ap,aq,aw,f,m,ax⟩
   refine Af (Ac ?_)
   refine Ab f Z fun a f=>Ab f Z fun a f=>Ab f Z fun a f=>Ah f Z Z (CW Z) fun a f=>Ah f Z Z CH fun a f=>Ah f Z Z Ar fun a f=>Ah f Z Z Ar fun a f=>Ah f Z Z B7 fun a f=>Aa ?_
   rcases Ae au with⟨ay,au⟩|⟨ay,au⟩
   ·refine Al f Z ay ?_
    refine Am ?_
    refine Af (Aj (Ac ?_))
    obtain⟨az,aA,au⟩:=bind_some au
    refine AK f Z Tryz.call191 (Wk.K m aA) fun aB aC aD w aE m aF a f=> ?_
    obtain⟨rfl,rfl⟩:=aF
    have ax:=Ow.mono (RTg.mono (RI.mono _)) aE ax
    refine Ab f Z fun a f=>Ah f Z Z AH fun a f=>Ah f Z Z DH fun a f=>l_o f (CT (f.eval Z) ⟨_,Tryz.underlying135⟩ Tryz.underlying3) fun a f=>Ad f Z fun a f=>Aa (Af (Ac ?_))
    refine Ab f Z fun a f=>Ab f Z fun a f=>Ah f Z Z BM fun a f=>Aa ?_
    obtain⟨aG,aH,au⟩:=bind_some au
    refine AC (fun a w=>∃aI:Int,aI=aG∧∃(aJ:GH),GLe aC aJ∧Fr a 67 [(0,v0),(1,(.int .i64 x1)),(8,(.int .i64 (IntKind.i64.wrap (x2-x1)))),(9,(.pointer (some ⟨ab,0,none⟩))),(10,(.int .u64 ac)),(11,(.int .i64 an)),(12,(.int .i64 aI))]∧Mem W aJ w (Itm.box ab 190 [(.int .u64 az.2)]::aq::H)) ?_ ?_
    ·rcases Ae aH with⟨aK,aH⟩|⟨aK,aH⟩
     ·refine Al f Z aK ?_
      refine Ak ?_
      refine Ab f Z fun a f=>Ab f Z fun a f=>Ah f Z Z AH fun a f=>Ad f Z fun a f=>Aa ?_
      obtain rfl:=sj aH
      exact⟨_,Z,_,gr,f.k Z,m⟩
     ·refine Ai f Z aK ?_
      refine Am ?_
      obtain rfl:=sj aH
      exact⟨_,Z,_,gr,f.k Z,m⟩
    ·rintro a w ⟨aI,rfl,aJ,aL,f,m⟩
     have ax:=Ow.mono (RTg.mono (RI.mono _)) aL ax
     refine Bv Aw m ?_
     refine p_p 2 Z (by kernel_rfl) f Z Z Z (fun _=>AX (f.eval Z)) fun a f=>p_p 3 Z (by kernel_rfl) f Z Z Z (fun _=>AX (f.eval Z)) fun a f=>p_p 4 Z (by kernel_rfl) f Z Z Z (fun _=>AX (f.eval Z)) fun a f=>p_p 5 Z (by kernel_rfl) f Z Z Z (fun _=>AD (f.eval Z) (f.eval Z) Ar) fun a f=>Bu 60017 13 (by kernel_rfl) Z ?_
     refine Ag 0 60017 Z f Z fun a f=>Ag 1 60017 Z f Z fun a f=>Ag 6 60017 Z f Z fun a f=>Ag 7 60017 Z f Z fun a f=>Ag 8 60017 Z f Z fun a f=>q_p 9 60017 Z f (fun _=>AD (f.eval Z) (f.eval Z) Ar) fun a f=> ?_
     obtain⟨aM,aN,au⟩:=bind_some au
     refine Az 10 60017 1 m ax T22 aN Z f Z Z fun aO a aP f=>AL 11 60017 1 ax AY aP aN Z f Z fun aQ a aR f=>Ag 12 60017 Z f Z fun a f=>Ag 13 60017 Z f Z fun a f=> ?_
     obtain⟨aS,aT,au⟩:=bind_some au
     refine Az 14 60017 1 m ax T22 aT Z f Z Z fun aU a aV f=>AL 15 60017 1 ax AY aV aT Z f Z fun aW a aX f=> ?_
     obtain⟨aY,aZ,au⟩:=bind_some au
     refine Az 16 60017 1 m ax T22 aZ Z f Z Z fun a0 a a1 f=>AI fun a2 w a3 m=> ?_
     have aR:=(RTg.mono (RI.mono _)) _ _ _ _ a3 aR
     have aX:=(RTg.mono (RI.mono _)) _ _ _ _ a3 aX
     have ax:=Ow.mono (RTg.mono (RI.mono _)) a3 ax
     refine Au 1 m ax Z Tryz.sizeOf42 f Z Z a1 aZ aR.cells aR.one1 aR fun a4 w m a5=> ?_
     obtain⟨a6,a7,au⟩:=bind_some au
     refine AW 1 m a5 Z T22 f Z Z Z a7 fun a8 a a9 f=>Au 1 m a5 Z Tryz.sizeOf42 f Z Z a9 a7 aX.cells aX.one1 aX fun ba w m bb=>Aa (Ak ?_)
     refine Ab f Z fun a f=>Ah f Z Z Ar fun a f=>Ad f Z fun a f=>Aa ?_
     obtain rfl:=sj au
     exact⟨_,Z,_,_,_,Z,_,ba,(gt aw (gt aE (gt aL a3))),f.k Z,m,bb⟩
   ·refine Ai f Z ay ?_
    refine Ax Z ?_
    have m:=m.front 1 rfl
    have m:=m.eraseAt 1
    obtain rfl:=sj au
    obtain rfl:=av _ rfl
    exact⟨_,Z,_,aq,aw,f.weak trivial,m,ax⟩
  ·rintro a w ⟨ai,rfl,aj,ak,bc,f,m,bd⟩
   obtain rfl:=sj hd
   exact⟨[],trivial,f.defers,_,[ak],(gt af bc),m,_,Z,bd⟩
 ·refine Ai f Z aa ?_
  refine Am ?_
  obtain rfl:=sj hd
  exact⟨[],trivial,f.defers,_,[it0],gr,m,_,Z,o0⟩
theorem Wk.O {W w:World}{G:GH}{H:List Itm}{v0:Value}{it0:Itm}{b3:Nat}{x0:(List (Value×List Int))}{x1:Int}{x2:Int}{x3_0:Int}(m:Mem W G w (it0::Itm.box b3 3 [(.int .i64 x3_0)]::H))(o0:Ow (RTg (RI .i64)) 42 G it0 v0 x0){y:Int×Int×((List (Value×List Int)))×Int}(hd:D.O x0 x1 x2 x3_0=some y):
  Calls Tryz.prog 206 #[v0,(.int .i64 x1),(.int .i64 x2),(.pointer (some ⟨b3,0,none⟩)),(.func (.func 58) #[] #[])] w (Res W G H (fun G' Ho v=>∃i0:Itm,Ho=[i0,Itm.box b3 3 [(.int .i64 y.2.2.2)]]∧v= .tuple #[(.int .i64 y.1),(.int .i64 y.2.1)]∧Ow (RTg (RI .i64)) 42 G' i0 v0 y.2.2.1)):=by
 refine As (args:=[v0,(.int .i64 x1),(.int .i64 x2),(.pointer (some ⟨b3,0,none⟩)),(.func (.func 58) #[] #[])]) (N:=32) [.tmp 10,.tmp 11] Tryz.func206 Z Z (Nat.le_of_ble_eq_true Z) Z fun a f=> ?_
 unfold D.O at hd
 refine Ac ?_
 refine Ad f Z fun a f=>Ad f Z fun a f=>Aa (Af (Af ?_))
 refine AT 11 Aw (by kernel_rfl) m ?_
 refine Ag 0 11 Z f Z fun a f=>Ag 1 11 Z f Z fun a f=>Ag 2 11 Z f Z fun a f=> ?_
 obtain⟨aa,ab,hd⟩:=bind_some hd
 refine Az 3 11 0 m o0 T22 ab Z f Z Z fun ac a ad f=>AL 4 11 0 o0 AY ad ab Z f Z fun ae a af f=>Ag 5 11 Z f Z fun a f=>Ag 6 11 Z f Z fun a f=> ?_
 obtain⟨ag,ah,hd⟩:=bind_some hd
 refine Az 7 11 0 m o0 T22 ah Z f Z Z fun ai a aj f=>AL 8 11 0 o0 AY aj ah Z f Z fun ak a al f=> ?_
 obtain⟨am,an,hd⟩:=bind_some hd
 refine Ck (i:=9) 11 Z (by kernel_rfl) Z f Z Z Z Z Tryz.call58 (fun _ _ w ao m=>Wk.a m (rd1 ao (af.2)) (rd1 ao (al.2)) an) fun a f=>q_p 10 11 Z f (fun _=>AD (f.eval Z) (f.eval Z) AJ) fun a f=>AI fun ap w aq m=> ?_
 have af:=(RTg.mono (RI.mono _)) _ _ _ _ aq af
 have al:=(RTg.mono (RI.mono _)) _ _ _ _ aq al
 have o0:=Ow.mono (RTg.mono (RI.mono _)) aq o0
 refine Aa ?_
 rcases Ae hd with⟨ar,hd⟩|⟨ar,hd⟩
 ·refine Al f Z ar ?_
  refine Ac ?_
  refine Ab f Z fun a f=>l_o f (Bj (f.eval Z)) fun a f=>AF 1 0 m Pl3 f Z Z Z Z fun a f=>Ah f Z Z Ar fun a f=>l_o f (Bj (f.eval Z)) fun a f=>AS 1 0 (ds:=[(.int .i64 (IntKind.i64.wrap (x3_0+1)))]) m Tryz.sizeOf3 f Z Z Z (AN Z A3) Z (Nat.le_of_ble_eq_true Z) Z fun w m=>Aa (Ac ?_)
  refine Ab f Z fun a f=>Ab f Z fun a f=>Ad f Z fun a f=>Ad f Z fun a f=>Aa ?_
  refine Aq ?_
  obtain rfl:=sj hd
  exact⟨[(.int .i64 x2),(.int .i64 x1)],⟨f.get _ _ Z,f.get _ _ Z,trivial⟩,f.defers,_,[it0,Itm.box b3 3 [(.int .i64 (IntKind.i64.wrap (x3_0+1)))]],aq,m,_,Z,Z,o0⟩
 ·refine Ai f Z ar ?_
  refine Am ?_
  refine Ac ?_
  refine Ab f Z fun a f=>Ab f Z fun a f=>Ad f Z fun a f=>Ad f Z fun a f=>Aa ?_
  refine Aq ?_
  obtain rfl:=sj hd
  exact⟨[(.int .i64 x1),(.int .i64 x2)],⟨f.get _ _ Z,f.get _ _ Z,trivial⟩,f.defers,_,[it0,Itm.box b3 3 [(.int .i64 x3_0)]],aq,m,_,Z,Z,o0⟩
theorem Wk.M0 {W w:World}{G:GH}{H:List Itm}{v0:Value}{it0:Itm}{b4:Nat}{x0:(List (Value×List Int))}{x1:Int}{x2:Int}{x3:Int}{x4_0:Int}(m:Mem W G w (it0::Itm.box b4 3 [(.int .i64 x4_0)]::H))(o0:Ow (RTg (RI .i64)) 42 G it0 v0 x0){y:Int×((List (Value×List Int)))×Int}(hd:D.M0 x0 x1 x2 x3 x4_0=some y):
  Calls Tryz.prog 193 #[v0,(.int .i64 x1),(.int .i64 x2),(.int .i64 x3),(.pointer (some ⟨b4,0,none⟩)),(.func (.func 58) #[] #[])] w (Res W G H (fun G' Ho v=>∃i0:Itm,Ho=[i0,Itm.box b4 3 [(.int .i64 y.2.2)]]∧v=(.int .i64 y.1)∧Ow (RTg (RI .i64)) 42 G' i0 v0 y.2.1)):=by
 refine As (args:=[v0,(.int .i64 x1),(.int .i64 x2),(.int .i64 x3),(.pointer (some ⟨b4,0,none⟩)),(.func (.func 58) #[] #[])]) (N:=41) [.tmp 12] Tryz.func193 Z Z (Nat.le_of_ble_eq_true Z) Z fun a f=> ?_
 unfold D.M0 at hd
 refine Ac ?_
 refine Ad f Z fun a f=>Aa (Ac ?_)
 refine Ab f Z fun a f=>Ab f Z fun a f=>Ab f Z fun a f=>Ab f Z fun a f=>Ab f Z fun a f=> ?_
 obtain⟨aa,ab,hd⟩:=bind_some hd
 refine AK f Z Tryz.call206 (Wk.O m o0 ab) fun ac ad ae w af m ag a f=> ?_
 obtain⟨ah,rfl,rfl,ai⟩:=ag
 refine Ab f Z fun a f=>l_o f (Bb (f.eval Z) Z) fun a f=>l_o f (Bb (f.eval Z) Z) fun a f=>Ad f Z fun a f=>Ad f Z fun a f=>Aa (Ac ?_)
 refine Ab f Z fun a f=>Ab f Z fun a f=>Ab f Z fun a f=>Ab f Z fun a f=>Ab f Z fun a f=> ?_
 obtain⟨aj,ak,hd⟩:=bind_some hd
 refine AK f Z Tryz.call206 (Wk.O m ai ak) fun al am an w ao m ap a f=> ?_
 obtain⟨aq,rfl,rfl,ar⟩:=ap
 refine Ab f Z fun a f=>l_o f (Bb (f.eval Z) Z) fun a f=>l_o f (Bb (f.eval Z) Z) fun a f=>Ad f Z fun a f=>Ad f Z fun a f=>Aa (Ac ?_)
 refine Ab f Z fun a f=>Ab f Z fun a f=>Ab f Z fun a f=>Ab f Z fun a f=>Ab f Z fun a f=> ?_
 obtain⟨au,av,hd⟩:=bind_some hd
 refine AK f Z Tryz.call206 (Wk.O m ar av) fun aw ax ay w az m aA a f=> ?_
 obtain⟨aB,rfl,rfl,aC⟩:=aA
 refine Ab f Z fun a f=>l_o f (Bb (f.eval Z) Z) fun a f=>l_o f (Bb (f.eval Z) Z) fun a f=>Ad f Z fun a f=>Ad f Z fun a f=>Aa (Ac ?_)
 refine Ab f Z fun a f=>Ad f Z fun a f=>Aa ?_
 refine Aq ?_
 obtain rfl:=sj hd
 exact⟨[(.int .i64 au.2.1)],⟨f.get _ _ Z,trivial⟩,f.defers,_,[aB,Itm.box b4 3 [(.int .i64 au.2.2.2)]],(gt af (gt ao az)),m,_,Z,Z,aC⟩
theorem Wk.V {W w:World}{G:GH}{H:List Itm}{v0:Value}{it0:Itm}{b2:Nat}{x0:(List (Value×List Int))}{x1:Int}{x2_0:Int}(m:Mem W G w (it0::Itm.box b2 3 [(.int .i64 x2_0)]::H))(o0:Ow (RTg (RI .i64)) 42 G it0 v0 x0){y:Int×((List (Value×List Int)))×Int}(hd:D.V x0 x1 x2_0=some y):
  Calls Tryz.prog 192 #[v0,(.int .i64 x1),(.pointer (some ⟨b2,0,none⟩)),(.func (.func 58) #[] #[])] w (Res W G H (fun G' Ho v=>∃i0:Itm,Ho=[i0,Itm.box b2 3 [(.int .i64 y.2.2)]]∧v=(.int .i64 y.1)∧Ow (RTg (RI .i64)) 42 G' i0 v0 y.2.1)):=by
 refine As (args:=[v0,(.int .i64 x1),(.pointer (some ⟨b2,0,none⟩)),(.func (.func 58) #[] #[])]) (N:=18) [.tmp 8] Tryz.func192 Z Z (Nat.le_of_ble_eq_true Z) Z fun a f=> ?_
 unfold D.V at hd
 refine Ac ?_
 refine Ad f Z fun a f=>Aa (Ac ?_)
 refine Ab f Z fun a f=>Ab f Z fun a f=>Ah f Z Z AH fun a f=>Ab f Z fun a f=>Ab f Z fun a f=>Ah f Z Z Ar fun a f=>Ab f Z fun a f=>Ab f Z fun a f=> ?_
 obtain⟨aa,ab,hd⟩:=bind_some hd
 refine AK f Z Tryz.call193 (Wk.M0 m o0 ab) fun ac ad ae w af m ag a f=> ?_
 obtain⟨ah,rfl,rfl,ai⟩:=ag
 refine Ad f Z fun a f=>Aa ?_
 refine Aq ?_
 obtain rfl:=sj hd
 exact⟨[(.int .i64 aa.1)],⟨f.get _ _ Z,trivial⟩,f.defers,_,[ah,Itm.box b2 3 [(.int .i64 aa.2.2)]],af,m,_,Z,Z,ai⟩
theorem Wk.a1 {W w:World}{G:GH}{H:List Itm}{v0:Value}{it0:Itm}{x0:(List (Value×List Int))}{x1:Int}{x2:Int}(m:Mem W G w (it0::H))(o0:Ow (RTg (RI .i64)) 42 G it0 v0 x0){y:Int×Int×((List (Value×List Int)))}(hd:D.a1 x0 x1 x2=some y):
  Calls Tryz.prog 157 #[v0,(.int .i64 x1),(.int .i64 x2),(.func (.func 58) #[] #[])] w (Res W G H (fun G' Ho v=>∃i0:Itm,Ho=[i0]∧v= .tuple #[(.int .i64 y.1),(.int .i64 y.2.1)]∧Ow (RTg (RI .i64)) 42 G' i0 v0 y.2.2)):=by
 refine As (args:=[v0,(.int .i64 x1),(.int .i64 x2),(.func (.func 58) #[] #[])]) (N:=63) [.tmp 8,.tmp 9] Tryz.func157 Z Z (Nat.le_of_ble_eq_true Z) Z fun a f=> ?_
 unfold D.a1 at hd
 refine Ac ?_
 refine Ad f Z fun a f=>Ad f Z fun a f=>Aa (Ac ?_)
 refine Ab f Z fun a f=>Ab f Z fun a f=>Ah f Z Z AH fun a f=>Ad f Z fun a f=>Aa (Ac ?_)
 refine Bx (cs:=[(.int .i64 0)]) Tryz.zeroValue3 m f Z Z fun aa w a m f=>Aa (Ac ?_)
 refine Ab f Z fun a f=>Ab f Z fun a f=>Ah f Z Z (CW Z) fun a f=>Ah f Z Z CH fun a f=>Ah f Z Z Ar fun a f=>Ad f Z fun a f=>Aa (Ac ?_)
 refine Ab f Z fun a f=>Ab f Z fun a f=>Ah f Z Z (CW Z) fun a f=>Ah f Z Z CH fun a f=>Ah f Z Z Ar fun a f=>Ad f Z fun a f=>Aa (Ac ?_)
 refine Ab f Z fun a f=>Ab f Z fun a f=>Ah f Z Z (CW Z) fun a f=>Ah f Z Z CH fun a f=>Ah f Z Z Ar fun a f=>Ad f Z fun a f=>Aa (Af (Ac ?_))
 refine Ab f Z fun a f=>Ah f Z Z BM fun a f=>Aa ?_
 rcases Ae hd with⟨ab,hd⟩|⟨ab,hd⟩
 ·refine Al f Z ab ?_
  refine Af (Ac ?_)
  refine Ab f Z fun a f=>Ah f Z Z BM fun a f=>Aa ?_
  obtain⟨ac,ad,hd⟩:=bind_some hd
  refine AC (fun a w=>∃ae:List (Value×List Int),∃af:Int,∃ag:Int,∃ah:Int,∃ai:Int,(ae,af,ag,ah,ai)=ac∧∃(aj:GH) (ak:Itm),GLe G aj∧Fr a 63 [(0,v0),(3,(.func (.func 58) #[] #[])),(11,(.pointer (some ⟨aa,0,none⟩))),(12,(.int .i64 af)),(13,(.int .i64 ag)),(14,(.int .i64 ah))]∧Mem W aj w (Itm.box aa 3 [(.int .i64 ai)]::ak::H)∧Ow (RTg (RI .i64)) 42 aj ak v0 ae) ?_ ?_
  ·rcases Ae ad with⟨al,ad⟩|⟨al,ad⟩
   ·refine Al f Z al ?_
    refine Ac ?_
    refine Ab f Z fun a f=>Ab f Z fun a f=>Ab f Z fun a f=> ?_
    have m:=m.front 1 rfl
    obtain⟨am,an,ad⟩:=bind_some ad
    refine AK f Z Tryz.call192 (Wk.V m o0 an) fun ao ap aq w ar m au a f=> ?_
    obtain⟨av,rfl,rfl,aw⟩:=au
    refine Ad f Z fun a f=>Aa (Ac ?_)
    refine Ab f Z fun a f=>Ab f Z fun a f=>Ab f Z fun a f=> ?_
    obtain⟨ax,ay,ad⟩:=bind_some ad
    refine AK f Z Tryz.call192 (Wk.V m aw ay) fun az aA aB w aC m aD a f=> ?_
    obtain⟨aE,rfl,rfl,aF⟩:=aD
    refine Ad f Z fun a f=>Aa (Ak ?_)
    refine Ab f Z fun a f=>Ab f Z fun a f=>Ab f Z fun a f=> ?_
    obtain⟨aG,aH,ad⟩:=bind_some ad
    refine AK f Z Tryz.call192 (Wk.V m aF aH) fun aI aJ aK w aL m aM a f=> ?_
    obtain⟨aN,rfl,rfl,aO⟩:=aM
    refine Ad f Z fun a f=>Aa ?_
    have m:=m.front 1 rfl
    obtain rfl:=sj ad
    exact⟨_,_,_,_,_,Z,_,aN,(gt ar (gt aC aL)),f.k Z,m,aO⟩
   ·refine Ai f Z al ?_
    refine Am ?_
    obtain rfl:=sj ad
    exact⟨_,_,_,_,_,Z,_,it0,gr,f.k Z,m,o0⟩
  ·rintro a w ⟨ae,af,ag,ah,ai,rfl,aj,ak,aP,f,m,aQ⟩
   refine Ak ?_
   refine Ab f Z fun a f=>Ab f Z fun a f=>Ab f Z fun a f=>Ab f Z fun a f=>Ab f Z fun a f=> ?_
   have m:=m.front 1 rfl
   obtain⟨aR,aS,hd⟩:=bind_some hd
   refine AK f Z Tryz.call193 (Wk.M0 m aQ aS) fun aT aU aV w aW m aX a f=> ?_
   obtain⟨aY,rfl,rfl,aZ⟩:=aX
   refine Ad f Z fun a f=>Aa (Ac ?_)
   refine AF 1 0 m Pl3 f Z Z Z Z fun a f=>Aa (Aj (Ac ?_))
   refine Ah f Z Z By fun a f=>Ad f Z fun a f=>Aa ?_
   rcases Ae hd with⟨a0,hd⟩|⟨a0,hd⟩
   ·refine Al f Z a0 ?_
    refine Ac ?_
    refine Ab f Z fun a f=>Ad f Z fun a f=>Ad f Z fun a f=>Aa ?_
    refine Aq ?_
    have m:=m.eraseAt 1
    obtain rfl:=sj hd
    exact⟨[(.int .i64 aR.1),(.int .i64 1)],⟨f.get _ _ Z,f.get _ _ Z,trivial⟩,f.defers,_,[aY],(gt aP aW),m,_,Z,Z,aZ⟩
   ·refine Ai f Z a0 ?_
    refine Ac ?_
    refine Ah f Z Z By fun a f=>Ad f Z fun a f=>Aa ?_
    rcases Ae hd with⟨a1,hd⟩|⟨a1,hd⟩
    ·refine Al f Z a1 ?_
     refine Ac ?_
     refine Ab f Z fun a f=>Ad f Z fun a f=>Ad f Z fun a f=>Aa ?_
     refine Aq ?_
     have m:=m.eraseAt 1
     obtain rfl:=sj hd
     exact⟨[(.int .i64 aR.1),(.int .i64 2)],⟨f.get _ _ Z,f.get _ _ Z,trivial⟩,f.defers,_,[aY],(gt aP aW),m,_,Z,Z,aZ⟩
    ·refine Ai f Z a1 ?_
     refine Ac ?_
     refine Ab f Z fun a f=>Ad f Z fun a f=>Ad f Z fun a f=>Aa ?_
     refine Aq ?_
     have m:=m.eraseAt 1
     obtain rfl:=sj hd
     exact⟨[(.int .i64 aR.1),(.int .i64 0)],⟨f.get _ _ Z,f.get _ _ Z,trivial⟩,f.defers,_,[aY],(gt aP aW),m,_,Z,Z,aZ⟩
 ·refine Ai f Z ab ?_
  refine Am ?_
  refine Ac ?_
  refine AF 0 0 m Pl3 f Z Z Z Z fun a f=>Aa (Aj (Ac ?_))
  refine Ah f Z Z By fun a f=>Ad f Z fun a f=>Aa ?_
  rcases Ae hd with⟨a2,hd⟩|⟨a2,hd⟩
  ·refine Al f Z a2 ?_
   refine Ac ?_
   refine Ab f Z fun a f=>Ad f Z fun a f=>Ad f Z fun a f=>Aa ?_
   refine Aq ?_
   have m:=m.front 1 rfl
   have m:=m.eraseAt 1
   obtain rfl:=sj hd
   exact⟨[(.int .i64 (IntKind.i64.wrap (x1+(IntKind.i64.wrap ((IntKind.i64.wrap (Int.tdiv (IntKind.i64.wrap (x2-x1)) 4))*2))))),(.int .i64 1)],⟨f.get _ _ Z,f.get _ _ Z,trivial⟩,f.defers,_,[it0],gr,m,_,Z,Z,o0⟩
  ·refine Ai f Z a2 ?_
   refine Ac ?_
   refine Ah f Z Z By fun a f=>Ad f Z fun a f=>Aa ?_
   rcases Ae hd with⟨a3,hd⟩|⟨a3,hd⟩
   ·refine Al f Z a3 ?_
    refine Ac ?_
    refine Ab f Z fun a f=>Ad f Z fun a f=>Ad f Z fun a f=>Aa ?_
    refine Aq ?_
    have m:=m.front 1 rfl
    have m:=m.eraseAt 1
    obtain rfl:=sj hd
    exact⟨[(.int .i64 (IntKind.i64.wrap (x1+(IntKind.i64.wrap ((IntKind.i64.wrap (Int.tdiv (IntKind.i64.wrap (x2-x1)) 4))*2))))),(.int .i64 2)],⟨f.get _ _ Z,f.get _ _ Z,trivial⟩,f.defers,_,[it0],gr,m,_,Z,Z,o0⟩
   ·refine Ai f Z a3 ?_
    refine Ac ?_
    refine Ab f Z fun a f=>Ad f Z fun a f=>Ad f Z fun a f=>Aa ?_
    refine Aq ?_
    have m:=m.front 1 rfl
    have m:=m.eraseAt 1
    obtain rfl:=sj hd
    exact⟨[(.int .i64 (IntKind.i64.wrap (x1+(IntKind.i64.wrap ((IntKind.i64.wrap (Int.tdiv (IntKind.i64.wrap (x2-x1)) 4))*2))))),(.int .i64 0)],⟨f.get _ _ Z,f.get _ _ Z,trivial⟩,f.defers,_,[it0],gr,m,_,Z,Z,o0⟩
theorem Wk.m1 {W w:World}{G:GH}{H:List Itm}{v0:Value}{it0:Itm}{x0:(List (Value×List Int))}{x1:Int}{x2:Int}(m:Mem W G w (it0::H))(o0:Ow (RTg (RI .i64)) 42 G it0 v0 x0){y:((List (Value×List Int)))}(hd:D.m1 x0 x1 x2=some y):
  Calls Tryz.prog 158 #[v0,(.int .i64 x1),(.int .i64 x2),(.func (.func 58) #[] #[])] w (Res W G H (fun G' Ho _=>∃i0:Itm,Ho=[i0]∧Ow (RTg (RI .i64)) 42 G' i0 v0 y)):=by
 refine As (args:=[v0,(.int .i64 x1),(.int .i64 x2),(.func (.func 58) #[] #[])]) (N:=34) [] Tryz.func158 Z Z (Nat.le_of_ble_eq_true Z) Z fun a f=> ?_
 unfold D.m1 at hd
 refine Ac ?_
 refine Ab f Z fun a f=>Ad f Z fun a f=>Aa (Ac ?_)
 refine Ab f Z fun a f=>Ah f Z Z AH fun a f=>Ad f Z fun a f=>Aa ?_
 obtain⟨aa,ab,hd⟩:=bind_some hd
 refine AC (fun a w=>∃ac:List (Value×List Int),ac=aa∧∃(ad:GH) (ae:Itm),GLe G ad∧Fr a 34 []∧Mem W ad w (ae::H)∧Ow (RTg (RI .i64)) 42 ad ae v0 ac) ?_ ?_
 ·refine Aj ?_
  refine AA (fun af a w=>∃ag:List (Value×List Int),∃ah:Int,∃ai:Int,(ag,ah,ai)=af∧∃(aj:GH) (ak:Itm),GLe G aj∧Fr a 34 [(0,v0),(8,(.int .i64 ah)),(9,(.int .i64 ai))]∧Mem W aj w (ak::H)∧Ow (RTg (RI .i64)) 42 aj ak v0 ag) ab ⟨_,_,_,Z,_,it0,gr,f.k Z,m,o0⟩ ?_
  clear ab f m
  rintro af al am an a w ⟨ag,ah,ai,rfl,aj,ak,ao,f,m,ap⟩
  refine Af (Ac ?_)
  refine Ab f Z fun a f=>Ab f Z fun a f=>Ah f Z Z AJ fun a f=>Aa ?_
  rcases Ae am with⟨aq,am⟩|⟨aq,am⟩
  ·refine Al f Z aq ?_
   refine Am ?_
   refine Aj (Af ?_)
   refine Bv Aw m ?_
   refine p_p 2 Z (by kernel_rfl) f Z Z Z (fun _=>AX (f.eval Z)) fun a f=>p_p 3 Z (by kernel_rfl) f Z Z Z (fun _=>AX (f.eval Z)) fun a f=>Bu 12013 11 (by kernel_rfl) Z ?_
   refine Ag 0 12013 Z f Z fun a f=>Ag 1 12013 Z f Z fun a f=>Ag 4 12013 Z f Z fun a f=>Ag 5 12013 Z f Z fun a f=> ?_
   obtain⟨ar,au,am⟩:=bind_some am
   refine Az 6 12013 0 m ap T22 au Z f Z Z fun av a aw f=>AL 7 12013 0 ap AY aw au Z f Z fun ax a ay f=>Ag 8 12013 Z f Z fun a f=>Ag 9 12013 Z f Z fun a f=> ?_
   obtain⟨az,aA,am⟩:=bind_some am
   refine Az 10 12013 0 m ap T22 aA Z f Z Z fun aB a aC f=>AL 11 12013 0 ap AY aC aA Z f Z fun aD a aE f=> ?_
   obtain⟨aF,aG,am⟩:=bind_some am
   refine Az 12 12013 0 m ap T22 aG Z f Z Z fun aH a aI f=>AI fun aJ w aK m=> ?_
   have ay:=(RTg.mono (RI.mono _)) _ _ _ _ aK ay
   have aE:=(RTg.mono (RI.mono _)) _ _ _ _ aK aE
   have ap:=Ow.mono (RTg.mono (RI.mono _)) aK ap
   refine Au 0 m ap Z Tryz.sizeOf42 f Z Z aI aG ay.cells ay.one1 ay fun aL w m aM=> ?_
   obtain⟨aN,aO,am⟩:=bind_some am
   refine AW 0 m aM Z T22 f Z Z Z aO fun aP a aQ f=>Au 0 m aM Z Tryz.sizeOf42 f Z Z aQ aO aE.cells aE.one1 aE fun aR w m aS=>Aa (Ac ?_)
   refine Ab f Z fun a f=>Ah f Z Z Ar fun a f=>Ad f Z fun a f=>Aa (Ak ?_)
   refine Ab f Z fun a f=>Ah f Z Z AH fun a f=>Ad f Z fun a f=>Aa ?_
   obtain rfl:=sj am
   exact⟨_,Z,_,_,_,Z,_,aR,(gt ao aK),f.k Z,m,aS⟩
  ·refine Ai f Z aq ?_
   refine Ax Z ?_
   obtain rfl:=sj am
   obtain rfl:=an _ rfl
   exact⟨_,Z,_,ak,ao,f.weak trivial,m,ap⟩
 ·rintro a w ⟨ac,rfl,ad,ae,aT,f,m,aU⟩
  obtain rfl:=sj hd
  exact⟨[],trivial,f.defers,_,[ae],aT,m,_,Z,aU⟩
theorem Wk.j1 {W w:World}{G:GH}{H:List Itm}{v0:Value}{it0:Itm}{x0:(List (Value×List Int))}{x1:Int}{x2:Int}(m:Mem W G w (it0::H))(o0:Ow (RTg (RI .i64)) 42 G it0 v0 x0){y:Bool×((List (Value×List Int)))}(hd:D.j1 x0 x1 x2=some y):
  Calls Tryz.prog 159 #[v0,(.int .i64 x1),(.int .i64 x2),(.func (.func 58) #[] #[])] w (Res W G H (fun G' Ho v=>∃i0:Itm,Ho=[i0]∧v=(.bool y.1)∧Ow (RTg (RI .i64)) 42 G' i0 v0 y.2)):=by
 refine As (args:=[v0,(.int .i64 x1),(.int .i64 x2),(.func (.func 58) #[] #[])]) (N:=141) [.tmp 8] Tryz.func159 Z Z (Nat.le_of_ble_eq_true Z) Z fun a f=> ?_
 unfold D.j1 at hd
 refine Ac ?_
 refine Ad f Z fun a f=>Aa (Ac ?_)
 refine Ab f Z fun a f=>Ah f Z Z Ar fun a f=>Ad f Z fun a f=>Aa (Af (Ac ?_))
 refine Ad f Z fun a f=>Aa ?_
 obtain⟨aa,ab,hd⟩:=bind_some hd
 refine AC (fun a w=>∃q_1621':(List (Value×List Int)),aa= .inl q_1621'∧∃ac:List (Value×List Int),ac=q_1621'∧∃(ad:GH) (ae:Itm),GLe G ad∧Fr a 141 []∧Mem W ad w (ae::H)∧Ow (RTg (RI .i64)) 42 ad ae v0 ac) ?_ ?_
 ·refine Aj ?_
  refine AA (fun af a w=>∃ag:List (Value×List Int),∃ah:Int,∃ai:Int,(ag,ah,ai)=af∧∃(aj:GH) (ak:Itm),GLe G aj∧Fr a 141 [(0,v0),(1,(.int .i64 x1)),(2,(.int .i64 x2)),(3,(.func (.func 58) #[] #[])),(9,(.int .i64 ah)),(10,(.int .i64 ai))]∧Mem W aj w (ak::H)∧Ow (RTg (RI .i64)) 42 aj ak v0 ag) ab ⟨_,_,_,Z,_,it0,gr,f.k Z,m,o0⟩ ?_
  clear ab f m
  rintro af al am an a w ⟨ag,ah,ai,rfl,aj,ak,ao,f,m,ap⟩
  refine Af (Ac ?_)
  refine Ab f Z fun a f=>Ah f Z Z AJ fun a f=>Aa ?_
  rcases Ae am with⟨aq,am⟩|⟨aq,am⟩
  ·refine Al f Z aq ?_
   refine Am ?_
   refine Af (Aj (Af ?_))
   obtain⟨ar,au,am⟩:=bind_some am
   refine AC (fun a w=>∃av:Int,av=ar∧∃(aw:GH),GLe aj aw∧Fr a 141 [(0,v0),(1,(.int .i64 x1)),(2,(.int .i64 x2)),(3,(.func (.func 58) #[] #[])),(9,(.int .i64 av)),(10,(.int .i64 ai))]∧Mem W aw w (ak::H)) ?_ ?_
   ·refine Aj ?_
    refine AA (fun ax a w=>∃ay:Int,ay=ax∧∃(az:GH),GLe aj az∧Fr a 141 [(0,v0),(1,(.int .i64 x1)),(2,(.int .i64 x2)),(3,(.func (.func 58) #[] #[])),(9,(.int .i64 ay)),(10,(.int .i64 ai))]∧Mem W az w (ak::H)) au ⟨_,Z,_,gr,f.k Z,m⟩ ?_
    clear au f m
    rintro ax aA aB aC a w ⟨ay,rfl,az,aD,f,m⟩
    have ap:=Ow.mono (RTg.mono (RI.mono _)) aD ap
    refine Af (Af ?_)
    refine AT 18 Aw (by kernel_rfl) m ?_
    refine Ag 0 18 Z f Z fun a f=>Ag 1 18 Z f Z fun a f=>q_p 2 18 Z f (fun _=>AD (f.eval Z) (f.eval Z) AJ) fun a f=>Ag 3 18 Z f Z fun a f=> ?_
    obtain⟨aE,aF,aB⟩:=bind_some aB
    refine BN (fuel':=0) (listed':= #[true,true,true,true,true,true,true,true,true,true,true,true,true,true,true,true,true,true]) (fun a=>Fr a 141 [(0,v0),(1,(.int .i64 x1)),(2,(.int .i64 x2)),(3,(.func (.func 58) #[] #[])),(9,(.int .i64 ay)),(10,(.int .i64 ai)),(19,(.int .i64 ay)),(20,(.int .i64 x2)),(21,(.bool (decide (ay<x2)))),(22,(.bool (decide (ay<x2)))),(36,(.bool aE))]) ?_ ?_
    ·intro a f
     refine AI fun aG w aH m=> ?_
     have ap:=Ow.mono (RTg.mono (RI.mono _)) aH ap
     refine Aa ?_
     rcases Ae aB with⟨aI,aB⟩|⟨aI,aB⟩
     ·refine Al f Z aI ?_
      refine Am ?_
      refine Aj (Ak ?_)
      refine Ab f Z fun a f=>Ah f Z Z Ar fun a f=>Ad f Z fun a f=>Aa ?_
      obtain rfl:=sj aB
      exact⟨_,Z,_,Z,_,(gt aD aH),f.k Z,m⟩
     ·refine Ai f Z aI ?_
      refine Ax Z ?_
      obtain rfl:=sj aB
      obtain rfl:=aC _ rfl
      exact⟨_,Z,_,(gt aD aH),f.k Z,m⟩
    ·intro aJ
     rcases Ae aF with⟨aK,aF⟩|⟨aK,aF⟩
     ·refine Ag (hw:=wo f aK) 4 18 Z f Z fun a f=> ?_
      refine Ag (hw:=wo f aK) 5 18 Z f Z fun a f=>Ag (hw:=wo f aK) 6 18 Z f Z fun a f=> ?_
      obtain⟨aL,aM,aF⟩:=bind_some aF
      refine Az (hw:=wo f aK) 7 18 0 m ap T22 aM Z f Z Z fun aN a aO f=>AL (hw:=wo f aK) 8 18 0 ap AY aO aM Z f Z fun aP a aQ f=>Ag (hw:=wo f aK) 9 18 Z f Z fun a f=>Ag (hw:=wo f aK) 10 18 Z f Z fun a f=>q_p (hw:=wo f aK) 11 18 Z f (fun _=>AD (f.eval Z) (f.eval Z) AH) fun a f=> ?_
      obtain⟨aR,aS,aF⟩:=bind_some aF
      refine Az (hw:=wo f aK) 12 18 0 m ap T22 aS Z f Z Z fun aT a aU f=>AL (hw:=wo f aK) 13 18 0 ap AY aU aS Z f Z fun aV a aW f=> ?_
      obtain⟨aX,aY,aF⟩:=bind_some aF
      refine Ck (i:=14) 18 Z (by kernel_rfl) Z f (AQ f Z Z Z aK) Z Z Z Tryz.call58 (fun _ _ w aZ m=>Wk.a m (rd1 aZ (aQ.2)) (rd1 aZ (aW.2)) aY) fun a f=>q_p (hw:=wo f aK) 15 18 Z f (fun _=>AD (f.eval Z) (f.eval Z) AJ) fun a f=>q_p (hw:=wo f aK) 16 18 Z f (fun _=>Bd (f.eval Z)) fun a f=>q_p 17 18 Z f (fun _=>AO (f.eval Z) aK (f.eval Z)) fun a f=> ?_
      obtain rfl:=sj aF
      exact aJ _ (f.k Z)
     ·refine An 4 18 Z f aK fun a f=> ?_
      refine An 5 18 Z f aK fun a f=>An 6 18 Z f aK fun a f=>An 7 18 Z f aK fun a f=>An 8 18 Z f aK fun a f=>An 9 18 Z f aK fun a f=>An 10 18 Z f aK fun a f=>An 11 18 Z f aK fun a f=>An 12 18 Z f aK fun a f=>An 13 18 Z f aK fun a f=>An 14 18 Z f aK fun a f=>An 15 18 Z f aK fun a f=>An 16 18 Z f aK fun a f=>q_p 17 18 Z f (fun _=>AP (f.eval Z) aK (f.eval Z)) fun a f=> ?_
      obtain rfl:=sj aF
      exact aJ _ (f.k Z)
   ·rintro a w ⟨av,rfl,aw,a0,f,m⟩
    have ap:=Ow.mono (RTg.mono (RI.mono _)) a0 ap
    refine Af (Ac ?_)
    refine Ab f Z fun a f=>Ab f Z fun a f=>Ah f Z Z By fun a f=>Aa ?_
    rcases Ae am with⟨a1,am⟩|⟨a1,am⟩
    ·refine Al f Z a1 ?_
     refine Ac ?_
     refine Ad f Z fun a f=>Aa ?_
     refine Aq ?_
     obtain rfl:=sj am
     obtain rfl:=an _ rfl
     obtain rfl:=sj hd
     exact⟨[(.bool true)],⟨f.get _ _ Z,trivial⟩,f.defers,_,[ak],(gt ao a0),m,_,Z,Z,ap⟩
    ·refine Ai f Z a1 ?_
     refine Am ?_
     refine Af (Ac ?_)
     refine Ab f Z fun a f=>Ab f Z fun a f=>Ah f Z Z AH fun a f=>Ah f Z Z AJ fun a f=>Aa ?_
     rcases Ae am with⟨a2,am⟩|⟨a2,am⟩
     ·refine Al f Z a2 ?_
      refine Ac ?_
      refine Ad f Z fun a f=>Aa ?_
      refine Aq ?_
      obtain rfl:=sj am
      obtain rfl:=an _ rfl
      obtain rfl:=sj hd
      exact⟨[(.bool false)],⟨f.get _ _ Z,trivial⟩,f.defers,_,[ak],(gt ao a0),m,_,Z,Z,ap⟩
     ·refine Ai f Z a2 ?_
      refine Am ?_
      refine Af ?_
      refine Bv Aw m ?_
      refine p_p 2 Z (by kernel_rfl) f Z Z Z (fun _=>AX (f.eval Z)) fun a f=>p_p 3 Z (by kernel_rfl) f Z Z Z (fun _=>AX (f.eval Z)) fun a f=>p_p 4 Z (by kernel_rfl) f Z Z Z (fun _=>AD (f.eval Z) (f.eval Z) AH) fun a f=>Bu 28015 12 (by kernel_rfl) Z ?_
      refine Ag 0 28015 Z f Z fun a f=>Ag 1 28015 Z f Z fun a f=>Ag 5 28015 Z f Z fun a f=>Ag 6 28015 Z f Z fun a f=>q_p 7 28015 Z f (fun _=>AD (f.eval Z) (f.eval Z) AH) fun a f=> ?_
      obtain⟨a3,a4,am⟩:=bind_some am
      refine Az 8 28015 0 m ap T22 a4 Z f Z Z fun a5 a a6 f=>AL 9 28015 0 ap AY a6 a4 Z f Z fun a7 a a8 f=>Ag 10 28015 Z f Z fun a f=>Ag 11 28015 Z f Z fun a f=> ?_
      obtain⟨a9,ba,am⟩:=bind_some am
      refine Az 12 28015 0 m ap T22 ba Z f Z Z fun bb a bc f=>AL 13 28015 0 ap AY bc ba Z f Z fun bd a be f=> ?_
      obtain⟨bf,bg,am⟩:=bind_some am
      refine Az 14 28015 0 m ap T22 bg Z f Z Z fun bh a bi f=>AI fun bj w bk m=> ?_
      have a8:=(RTg.mono (RI.mono _)) _ _ _ _ bk a8
      have be:=(RTg.mono (RI.mono _)) _ _ _ _ bk be
      have ap:=Ow.mono (RTg.mono (RI.mono _)) bk ap
      refine Au 0 m ap Z Tryz.sizeOf42 f Z Z bi bg a8.cells a8.one1 a8 fun bl w m bm=> ?_
      obtain⟨bn,bo,am⟩:=bind_some am
      refine AW 0 m bm Z T22 f Z Z Z bo fun bp a bq f=>Au 0 m bm Z Tryz.sizeOf42 f Z Z bq bo be.cells be.one1 be fun br w m bs=>Aa (Af (Ac ?_))
      refine Ab f Z fun a f=>Ab f Z fun a f=>Ah f Z Z AH fun a f=>Ah f Z Z BM fun a f=>Aa ?_
      obtain⟨bt,bu,am⟩:=bind_some am
      refine AC (fun a w=>∃bv:List (Value×List Int),bv=bt∧∃(bw:GH) (bx:Itm),GLe bj bw∧Fr a 141 [(0,v0),(1,(.int .i64 x1)),(2,(.int .i64 x2)),(3,(.func (.func 58) #[] #[])),(9,(.int .i64 av)),(10,(.int .i64 ai))]∧Mem W bw w (bx::H)∧Ow (RTg (RI .i64)) 42 bw bx v0 bv) ?_ ?_
      ·rcases Ae bu with⟨bz,bu⟩|⟨bz,bu⟩
       ·refine Al f Z bz ?_
        refine Ac ?_
        refine Ab f Z fun a f=>Ah f Z Z AH fun a f=>Ad f Z fun a f=>Aa ?_
        obtain⟨bA,bB,bu⟩:=bind_some bu
        refine AC (fun a w=>∃bC:List (Value×List Int),bC=bA∧∃(bD:GH) (bE:Itm),GLe bj bD∧Fr a 141 [(0,v0),(1,(.int .i64 x1)),(2,(.int .i64 x2)),(3,(.func (.func 58) #[] #[])),(9,(.int .i64 av)),(10,(.int .i64 ai))]∧Mem W bD w (bE::H)∧Ow (RTg (RI .i64)) 42 bD bE v0 bC) ?_ ?_
        ·refine Aj ?_
         refine AA (fun bF a w=>∃bG:List (Value×List Int),∃bH:Int,(bG,bH)=bF∧∃(bI:GH) (bJ:Itm),GLe bj bI∧Fr a 141 [(0,v0),(1,(.int .i64 x1)),(2,(.int .i64 x2)),(3,(.func (.func 58) #[] #[])),(9,(.int .i64 av)),(10,(.int .i64 ai)),(11,(.int .i64 bH))]∧Mem W bI w (bJ::H)∧Ow (RTg (RI .i64)) 42 bI bJ v0 bG) bB ⟨_,_,Z,_,br,gr,f.k Z,m,bs⟩ ?_
         clear bB f m
         rintro bF bK bL bM a w ⟨bG,bH,rfl,bI,bJ,bN,f,m,bO⟩
         refine Af (Ac ?_)
         refine Ab f Z fun a f=>Ah f Z Z BM fun a f=>Aa ?_
         rcases Ae bL with⟨bP,bL⟩|⟨bP,bL⟩
         ·refine Al f Z bP ?_
          refine Am ?_
          refine Af (Aj (Af (Af ?_)))
          refine AT 13 Aw (by kernel_rfl) m ?_
          refine Ag 0 13 Z f Z fun a f=>Ag 1 13 Z f Z fun a f=>Ag 2 13 Z f Z fun a f=> ?_
          obtain⟨bQ,bR,bL⟩:=bind_some bL
          refine Az 3 13 0 m bO T22 bR Z f Z Z fun bS a bT f=>AL 4 13 0 bO AY bT bR Z f Z fun bU a bV f=>Ag 5 13 Z f Z fun a f=>Ag 6 13 Z f Z fun a f=>q_p 7 13 Z f (fun _=>AD (f.eval Z) (f.eval Z) AH) fun a f=> ?_
          obtain⟨bW,bX,bL⟩:=bind_some bL
          refine Az 8 13 0 m bO T22 bX Z f Z Z fun bY a bZ f=>AL 9 13 0 bO AY bZ bX Z f Z fun b0 a b1 f=> ?_
          obtain⟨b2,b3,bL⟩:=bind_some bL
          refine Ck (i:=10) 13 Z (by kernel_rfl) Z f Z Z Z Z Tryz.call58 (fun _ _ w b4 m=>Wk.a m (rd1 b4 (bV.2)) (rd1 b4 (b1.2)) b3) fun a f=>q_p 11 13 Z f (fun _=>AD (f.eval Z) (f.eval Z) AJ) fun a f=>q_p 12 13 Z f (fun _=>Bd (f.eval Z)) fun a f=>AI fun b5 w b6 m=> ?_
          have bV:=(RTg.mono (RI.mono _)) _ _ _ _ b6 bV
          have b1:=(RTg.mono (RI.mono _)) _ _ _ _ b6 b1
          have bO:=Ow.mono (RTg.mono (RI.mono _)) b6 bO
          refine Aa ?_
          rcases Ae bL with⟨b7,bL⟩|⟨b7,bL⟩
          ·refine Al f Z b7 ?_
           refine Ax Z ?_
           obtain rfl:=sj bL
           obtain rfl:=bM _ rfl
           exact⟨_,Z,_,bJ,(gt bN b6),f.k Z,m,bO⟩
          ·refine Ai f Z b7 ?_
           refine Am ?_
           refine Bv Aw m ?_
           refine p_p 2 Z (by kernel_rfl) f Z Z Z (fun _=>AX (f.eval Z)) fun a f=>p_p 3 Z (by kernel_rfl) f Z Z Z (fun _=>AX (f.eval Z)) fun a f=>p_p 4 Z (by kernel_rfl) f Z Z Z (fun _=>AD (f.eval Z) (f.eval Z) AH) fun a f=>Bu 28015 12 (by kernel_rfl) Z ?_
           refine Ag 0 28015 Z f Z fun a f=>Ag 1 28015 Z f Z fun a f=>Ag 5 28015 Z f Z fun a f=>Ag 6 28015 Z f Z fun a f=>q_p 7 28015 Z f (fun _=>AD (f.eval Z) (f.eval Z) AH) fun a f=> ?_
           obtain⟨b8,b9,bL⟩:=bind_some bL
           refine Az 8 28015 0 m bO T22 b9 Z f Z Z fun ca a cb f=>AL 9 28015 0 bO AY cb b9 Z f Z fun cc a cd f=>Ag 10 28015 Z f Z fun a f=>Ag 11 28015 Z f Z fun a f=> ?_
           obtain⟨ce,cf,bL⟩:=bind_some bL
           refine Az 12 28015 0 m bO T22 cf Z f Z Z fun cg a ch f=>AL 13 28015 0 bO AY ch cf Z f Z fun ci a cj f=> ?_
           obtain⟨ck,cl,bL⟩:=bind_some bL
           refine Az 14 28015 0 m bO T22 cl Z f Z Z fun cm a cn f=>AI fun co w cp m=> ?_
           have cd:=(RTg.mono (RI.mono _)) _ _ _ _ cp cd
           have cj:=(RTg.mono (RI.mono _)) _ _ _ _ cp cj
           have bO:=Ow.mono (RTg.mono (RI.mono _)) cp bO
           refine Au 0 m bO Z Tryz.sizeOf42 f Z Z cn cl cd.cells cd.one1 cd fun cq w m cr=> ?_
           obtain⟨cs,ct,bL⟩:=bind_some bL
           refine AW 0 m cr Z T22 f Z Z Z ct fun cu a cv f=>Au 0 m cr Z Tryz.sizeOf42 f Z Z cv ct cj.cells cj.one1 cj fun cw w m cx=>Aa (Ak ?_)
           refine Ab f Z fun a f=>Ah f Z Z AH fun a f=>Ad f Z fun a f=>Aa ?_
           obtain rfl:=sj bL
           exact⟨_,Z,_,_,Z,_,cw,(gt bN (gt b6 cp)),f.k Z,m,cx⟩
         ·refine Ai f Z bP ?_
          refine Ax Z ?_
          obtain rfl:=sj bL
          obtain rfl:=bM _ rfl
          exact⟨_,Z,_,bJ,bN,f.k Z,m,bO⟩
        ·rintro a w ⟨bC,rfl,bD,bE,cy,f,m,cz⟩
         obtain rfl:=sj bu
         exact⟨_,Z,_,bE,cy,f.k Z,m,cz⟩
       ·refine Ai f Z bz ?_
        refine Am ?_
        obtain rfl:=sj bu
        exact⟨_,Z,_,br,gr,f.k Z,m,bs⟩
      ·rintro a w ⟨bv,rfl,bw,bx,cA,f,m,cB⟩
       refine Ac ?_
       refine Ab f Z fun a f=>Ab f Z fun a f=>Ah f Z Z AH fun a f=>Ah f Z Z BM fun a f=>Aa ?_
       rcases Ae am with⟨cC,am⟩|⟨cC,am⟩
       ·refine Al f Z cC ?_
        refine Ac ?_
        refine Ab f Z fun a f=>Ah f Z Z Ar fun a f=>Ad f Z fun a f=>Aa ?_
        obtain⟨cD,cE,am⟩:=bind_some am
        refine AC (fun a w=>∃cF:List (Value×List Int),cF=cD∧∃(cG:GH) (cH:Itm),GLe bw cG∧Fr a 141 [(0,v0),(1,(.int .i64 x1)),(2,(.int .i64 x2)),(3,(.func (.func 58) #[] #[])),(9,(.int .i64 av)),(10,(.int .i64 ai))]∧Mem W cG w (cH::H)∧Ow (RTg (RI .i64)) 42 cG cH v0 cF) ?_ ?_
        ·refine Aj ?_
         refine AA (fun cI a w=>∃cJ:List (Value×List Int),∃cK:Int,(cJ,cK)=cI∧∃(cL:GH) (cM:Itm),GLe bw cL∧Fr a 141 [(0,v0),(1,(.int .i64 x1)),(2,(.int .i64 x2)),(3,(.func (.func 58) #[] #[])),(9,(.int .i64 av)),(10,(.int .i64 ai)),(12,(.int .i64 cK))]∧Mem W cL w (cM::H)∧Ow (RTg (RI .i64)) 42 cL cM v0 cJ) cE ⟨_,_,Z,_,bx,gr,f.k Z,m,cB⟩ ?_
         clear cE f m
         rintro cI cN cO cP a w ⟨cJ,cK,rfl,cL,cM,cQ,f,m,cR⟩
         refine Af (Ac ?_)
         refine Ab f Z fun a f=>Ab f Z fun a f=>Ah f Z Z AJ fun a f=>Aa ?_
         rcases Ae cO with⟨cS,cO⟩|⟨cS,cO⟩
         ·refine Al f Z cS ?_
          refine Am ?_
          refine Af (Aj (Af (Af ?_)))
          refine AT 13 Aw (by kernel_rfl) m ?_
          refine Ag 0 13 Z f Z fun a f=>Ag 1 13 Z f Z fun a f=>Ag 2 13 Z f Z fun a f=> ?_
          obtain⟨cT,cU,cO⟩:=bind_some cO
          refine Az 3 13 0 m cR T22 cU Z f Z Z fun cV a cW f=>AL 4 13 0 cR AY cW cU Z f Z fun cX a cY f=>Ag 5 13 Z f Z fun a f=>Ag 6 13 Z f Z fun a f=>q_p 7 13 Z f (fun _=>AD (f.eval Z) (f.eval Z) AH) fun a f=> ?_
          obtain⟨cZ,c0,cO⟩:=bind_some cO
          refine Az 8 13 0 m cR T22 c0 Z f Z Z fun c1 a c2 f=>AL 9 13 0 cR AY c2 c0 Z f Z fun c3 a c4 f=> ?_
          obtain⟨c5,c6,cO⟩:=bind_some cO
          refine Ck (i:=10) 13 Z (by kernel_rfl) Z f Z Z Z Z Tryz.call58 (fun _ _ w c7 m=>Wk.a m (rd1 c7 (cY.2)) (rd1 c7 (c4.2)) c6) fun a f=>q_p 11 13 Z f (fun _=>AD (f.eval Z) (f.eval Z) AJ) fun a f=>q_p 12 13 Z f (fun _=>Bd (f.eval Z)) fun a f=>AI fun c8 w c9 m=> ?_
          have cY:=(RTg.mono (RI.mono _)) _ _ _ _ c9 cY
          have c4:=(RTg.mono (RI.mono _)) _ _ _ _ c9 c4
          have cR:=Ow.mono (RTg.mono (RI.mono _)) c9 cR
          refine Aa ?_
          rcases Ae cO with⟨da,cO⟩|⟨da,cO⟩
          ·refine Al f Z da ?_
           refine Ax Z ?_
           obtain rfl:=sj cO
           obtain rfl:=cP _ rfl
           exact⟨_,Z,_,cM,(gt cQ c9),f.k Z,m,cR⟩
          ·refine Ai f Z da ?_
           refine Am ?_
           refine Bv Aw m ?_
           refine p_p 2 Z (by kernel_rfl) f Z Z Z (fun _=>AX (f.eval Z)) fun a f=>p_p 3 Z (by kernel_rfl) f Z Z Z (fun _=>AX (f.eval Z)) fun a f=>p_p 4 Z (by kernel_rfl) f Z Z Z (fun _=>AD (f.eval Z) (f.eval Z) AH) fun a f=>Bu 28015 12 (by kernel_rfl) Z ?_
           refine Ag 0 28015 Z f Z fun a f=>Ag 1 28015 Z f Z fun a f=>Ag 5 28015 Z f Z fun a f=>Ag 6 28015 Z f Z fun a f=>q_p 7 28015 Z f (fun _=>AD (f.eval Z) (f.eval Z) AH) fun a f=> ?_
           obtain⟨db,dc,cO⟩:=bind_some cO
           refine Az 8 28015 0 m cR T22 dc Z f Z Z fun dd a de f=>AL 9 28015 0 cR AY de dc Z f Z fun df a dg f=>Ag 10 28015 Z f Z fun a f=>Ag 11 28015 Z f Z fun a f=> ?_
           obtain⟨dh,di,cO⟩:=bind_some cO
           refine Az 12 28015 0 m cR T22 di Z f Z Z fun dj a dk f=>AL 13 28015 0 cR AY dk di Z f Z fun dl a dm f=> ?_
           obtain⟨dn,dp,cO⟩:=bind_some cO
           refine Az 14 28015 0 m cR T22 dp Z f Z Z fun dq a dr f=>AI fun ds w dt m=> ?_
           have dg:=(RTg.mono (RI.mono _)) _ _ _ _ dt dg
           have dm:=(RTg.mono (RI.mono _)) _ _ _ _ dt dm
           have cR:=Ow.mono (RTg.mono (RI.mono _)) dt cR
           refine Au 0 m cR Z Tryz.sizeOf42 f Z Z dr dp dg.cells dg.one1 dg fun du w m dv=> ?_
           obtain⟨dw,dx,cO⟩:=bind_some cO
           refine AW 0 m dv Z T22 f Z Z Z dx fun dy a dz f=>Au 0 m dv Z Tryz.sizeOf42 f Z Z dz dx dm.cells dm.one1 dm fun dA w m dB=>Aa (Ak ?_)
           refine Ab f Z fun a f=>Ah f Z Z Ar fun a f=>Ad f Z fun a f=>Aa ?_
           obtain rfl:=sj cO
           exact⟨_,Z,_,_,Z,_,dA,(gt cQ (gt c9 dt)),f.k Z,m,dB⟩
         ·refine Ai f Z cS ?_
          refine Ax Z ?_
          obtain rfl:=sj cO
          obtain rfl:=cP _ rfl
          exact⟨_,Z,_,cM,cQ,f.k Z,m,cR⟩
        ·rintro a w ⟨cF,rfl,cG,cH,dC,f,m,dD⟩
         refine Ak ?_
         refine Ab f Z fun a f=>Ah f Z Z Ar fun a f=>Ad f Z fun a f=>Aa ?_
         obtain rfl:=sj am
         exact⟨_,Z,_,_,_,Z,_,cH,(gt ao (gt a0 (gt bk (gt cA dC)))),f.k Z,m,dD⟩
       ·refine Ai f Z cC ?_
        refine Am ?_
        refine Ak ?_
        refine Ab f Z fun a f=>Ah f Z Z Ar fun a f=>Ad f Z fun a f=>Aa ?_
        obtain rfl:=sj am
        exact⟨_,Z,_,_,_,Z,_,bx,(gt ao (gt a0 (gt bk cA))),f.k Z,m,cB⟩
  ·refine Ai f Z aq ?_
   refine Ax Z ?_
   obtain rfl:=sj am
   obtain rfl:=an _ rfl
   exact⟨_,Z,_,Z,_,ak,ao,f.weak trivial,m,ap⟩
 ·rintro a w ⟨_,rfl,ac,rfl,ad,ae,dE,f,m,dF⟩
  refine Ac ?_
  refine Ad f Z fun a f=>Aa ?_
  refine Aq ?_
  obtain rfl:=sj hd
  exact⟨[(.bool false)],⟨f.get _ _ Z,trivial⟩,f.defers,_,[ae],dE,m,_,Z,Z,dF⟩
theorem Wk.k1 {W w:World}{G:GH}{H:List Itm}{v0:Value}{it0:Itm}{x0:(List (Value×List Int))}{x1:Int}{x2:Int}{x3:Int}(m:Mem W G w (it0::H))(o0:Ow (RTg (RI .i64)) 42 G it0 v0 x0){y:Int×((List (Value×List Int)))}(hd:D.k1 x0 x1 x2 x3=some y):
  Calls Tryz.prog 160 #[v0,(.int .i64 x1),(.int .i64 x2),(.int .i64 x3),(.func (.func 58) #[] #[])] w (Res W G H (fun G' Ho v=>∃i0:Itm,Ho=[i0]∧v=(.int .i64 y.1)∧Ow (RTg (RI .i64)) 42 G' i0 v0 y.2)):=by
 refine As (args:=[v0,(.int .i64 x1),(.int .i64 x2),(.int .i64 x3),(.func (.func 58) #[] #[])]) (N:=90) [.tmp 10] Tryz.func160 Z Z (Nat.le_of_ble_eq_true Z) Z fun a f=> ?_
 unfold D.k1 at hd
 refine Ac ?_
 refine Ad f Z fun a f=>Aa (Af ?_)
 refine Bv Aw m ?_
 refine p_p 2 Z (by kernel_rfl) f Z Z Z (fun _=>AX (f.eval Z)) fun a f=>p_p 3 Z (by kernel_rfl) f Z Z Z (fun _=>AX (f.eval Z)) fun a f=>Bu 12013 11 (by kernel_rfl) Z ?_
 refine Ag 0 12013 Z f Z fun a f=>Ag 1 12013 Z f Z fun a f=>Ag 4 12013 Z f Z fun a f=>Ag 5 12013 Z f Z fun a f=> ?_
 obtain⟨aa,ab,hd⟩:=bind_some hd
 refine Az 6 12013 0 m o0 T22 ab Z f Z Z fun ac a ad f=>AL 7 12013 0 o0 AY ad ab Z f Z fun ae a af f=>Ag 8 12013 Z f Z fun a f=>Ag 9 12013 Z f Z fun a f=> ?_
 obtain⟨ag,ah,hd⟩:=bind_some hd
 refine Az 10 12013 0 m o0 T22 ah Z f Z Z fun ai a aj f=>AL 11 12013 0 o0 AY aj ah Z f Z fun ak a al f=> ?_
 obtain⟨am,an,hd⟩:=bind_some hd
 refine Az 12 12013 0 m o0 T22 an Z f Z Z fun ao a ap f=>AI fun aq w ar m=> ?_
 have af:=(RTg.mono (RI.mono _)) _ _ _ _ ar af
 have al:=(RTg.mono (RI.mono _)) _ _ _ _ ar al
 have o0:=Ow.mono (RTg.mono (RI.mono _)) ar o0
 refine Au 0 m o0 Z Tryz.sizeOf42 f Z Z ap an af.cells af.one1 af fun au w m av=> ?_
 obtain⟨aw,ax,hd⟩:=bind_some hd
 refine AW 0 m av Z T22 f Z Z Z ax fun ay a az f=>Au 0 m av Z Tryz.sizeOf42 f Z Z az ax al.cells al.one1 al fun aA w m aB=>Aa (Ac ?_)
 refine Ab f Z fun a f=>Ah f Z Z Ar fun a f=>Ab f Z fun a f=>Ah f Z Z AH fun a f=>Ad f Z fun a f=>Ad f Z fun a f=>Aa (Af ?_)
 obtain⟨aC,aD,hd⟩:=bind_some hd
 refine AC (fun a w=>∃aE:List (Value×List Int),∃aF:Int,(aE,aF)=aC∧∃(aG:GH) (aH:Itm),GLe aq aG∧Fr a 90 [(11,(.int .i64 aF))]∧Mem W aG w (aH::H)∧Ow (RTg (RI .i64)) 42 aG aH v0 aE) ?_ ?_
 ·refine Aj ?_
  refine AA (fun aI a w=>∃aJ:List (Value×List Int),∃aK:Int,∃aL:Int,(aJ,aK,aL)=aI∧∃(aM:GH) (aN:Itm),GLe aq aM∧Fr a 90 [(0,v0),(1,(.int .i64 x1)),(4,(.func (.func 58) #[] #[])),(11,(.int .i64 aK)),(12,(.int .i64 aL))]∧Mem W aM w (aN::H)∧Ow (RTg (RI .i64)) 42 aM aN v0 aJ) aD ⟨_,_,_,Z,_,aA,gr,f.k Z,m,aB⟩ ?_
  clear aD f m
  rintro aI aO aP aQ a w ⟨aJ,aK,aL,rfl,aM,aN,aR,f,m,aS⟩
  refine Aj (Af ?_)
  obtain⟨aT,aU,aP⟩:=bind_some aP
  refine AC (fun a w=>∃aV:Int,aV=aT∧∃(aW:GH),GLe aM aW∧Fr a 90 [(0,v0),(1,(.int .i64 x1)),(4,(.func (.func 58) #[] #[])),(11,(.int .i64 aV)),(12,(.int .i64 aL))]∧Mem W aW w (aN::H)) ?_ ?_
  ·refine Aj ?_
   refine AA (fun aX a w=>∃aY:Int,aY=aX∧∃(aZ:GH),GLe aM aZ∧Fr a 90 [(0,v0),(1,(.int .i64 x1)),(4,(.func (.func 58) #[] #[])),(11,(.int .i64 aY)),(12,(.int .i64 aL))]∧Mem W aZ w (aN::H)) aU ⟨_,Z,_,gr,f.k Z,m⟩ ?_
   clear aU f m
   rintro aX a0 a1 a2 a w ⟨aY,rfl,aZ,a3,f,m⟩
   have aS:=Ow.mono (RTg.mono (RI.mono _)) a3 aS
   refine Af (Af ?_)
   refine AT 17 Aw (by kernel_rfl) m ?_
   refine Ag 0 17 Z f Z fun a f=>Ag 1 17 Z f Z fun a f=>q_p 2 17 Z f (fun _=>AD (f.eval Z) (f.eval Z) B7) fun a f=>Ag 3 17 Z f Z fun a f=> ?_
   obtain⟨a4,a5,a1⟩:=bind_some a1
   refine BN (fuel':=0) (listed':= #[true,true,true,true,true,true,true,true,true,true,true,true,true,true,true,true,true]) (fun a=>Fr a 90 [(0,v0),(1,(.int .i64 x1)),(4,(.func (.func 58) #[] #[])),(11,(.int .i64 aY)),(12,(.int .i64 aL)),(31,(.int .i64 aY)),(32,(.int .i64 aL)),(33,(.bool (decide (aY≤aL)))),(34,(.bool (decide (aY≤aL)))),(47,(.bool a4))]) ?_ ?_
   ·intro a f
    refine AI fun a6 w a7 m=> ?_
    have aS:=Ow.mono (RTg.mono (RI.mono _)) a7 aS
    refine Aa ?_
    rcases Ae a1 with⟨a8,a1⟩|⟨a8,a1⟩
    ·refine Al f Z a8 ?_
     refine Am ?_
     refine Aj (Ak ?_)
     refine Ab f Z fun a f=>Ah f Z Z Ar fun a f=>Ad f Z fun a f=>Aa ?_
     obtain rfl:=sj a1
     exact⟨_,Z,_,Z,_,(gt a3 a7),f.k Z,m⟩
    ·refine Ai f Z a8 ?_
     refine Ax Z ?_
     obtain rfl:=sj a1
     obtain rfl:=a2 _ rfl
     exact⟨_,Z,_,(gt a3 a7),f.k Z,m⟩
   ·intro a9
    rcases Ae a5 with⟨ba,a5⟩|⟨ba,a5⟩
    ·refine Ag (hw:=wo f ba) 4 17 Z f Z fun a f=> ?_
     refine Ag (hw:=wo f ba) 5 17 Z f Z fun a f=>Ag (hw:=wo f ba) 6 17 Z f Z fun a f=> ?_
     obtain⟨bb,bc,a5⟩:=bind_some a5
     refine Az (hw:=wo f ba) 7 17 0 m aS T22 bc Z f Z Z fun bd a be f=>AL (hw:=wo f ba) 8 17 0 aS AY be bc Z f Z fun bf a bg f=>Ag (hw:=wo f ba) 9 17 Z f Z fun a f=>Ag (hw:=wo f ba) 10 17 Z f Z fun a f=> ?_
     obtain⟨bh,bi,a5⟩:=bind_some a5
     refine Az (hw:=wo f ba) 11 17 0 m aS T22 bi Z f Z Z fun bj a bk f=>AL (hw:=wo f ba) 12 17 0 aS AY bk bi Z f Z fun bl a bm f=> ?_
     obtain⟨bn,bo,a5⟩:=bind_some a5
     refine Ck (i:=13) 17 Z (by kernel_rfl) Z f (AQ f Z Z Z ba) Z Z Z Tryz.call58 (fun _ _ w bp m=>Wk.a m (rd1 bp (bg.2)) (rd1 bp (bm.2)) bo) fun a f=>q_p (hw:=wo f ba) 14 17 Z f (fun _=>AD (f.eval Z) (f.eval Z) AJ) fun a f=>q_p (hw:=wo f ba) 15 17 Z f (fun _=>Bd (f.eval Z)) fun a f=>q_p 16 17 Z f (fun _=>AO (f.eval Z) ba (f.eval Z)) fun a f=> ?_
     obtain rfl:=sj a5
     exact a9 _ (f.k Z)
    ·refine An 4 17 Z f ba fun a f=> ?_
     refine An 5 17 Z f ba fun a f=>An 6 17 Z f ba fun a f=>An 7 17 Z f ba fun a f=>An 8 17 Z f ba fun a f=>An 9 17 Z f ba fun a f=>An 10 17 Z f ba fun a f=>An 11 17 Z f ba fun a f=>An 12 17 Z f ba fun a f=>An 13 17 Z f ba fun a f=>An 14 17 Z f ba fun a f=>An 15 17 Z f ba fun a f=>q_p 16 17 Z f (fun _=>AP (f.eval Z) ba (f.eval Z)) fun a f=> ?_
     obtain rfl:=sj a5
     exact a9 _ (f.k Z)
  ·rintro a w ⟨aV,rfl,aW,bq,f,m⟩
   have aS:=Ow.mono (RTg.mono (RI.mono _)) bq aS
   refine Af ?_
   obtain⟨br,bs,aP⟩:=bind_some aP
   refine AC (fun a w=>∃bt:Int,bt=br∧∃(bu:GH),GLe aW bu∧Fr a 90 [(0,v0),(1,(.int .i64 x1)),(4,(.func (.func 58) #[] #[])),(11,(.int .i64 aV)),(12,(.int .i64 bt))]∧Mem W bu w (aN::H)) ?_ ?_
   ·refine Aj ?_
    refine AA (fun bv a w=>∃bw:Int,bw=bv∧∃(bx:GH),GLe aW bx∧Fr a 90 [(0,v0),(1,(.int .i64 x1)),(4,(.func (.func 58) #[] #[])),(11,(.int .i64 aV)),(12,(.int .i64 bw))]∧Mem W bx w (aN::H)) bs ⟨_,Z,_,gr,f.k Z,m⟩ ?_
    clear bs f m
    rintro bv bz bA bB a w ⟨bw,rfl,bx,bC,f,m⟩
    have aS:=Ow.mono (RTg.mono (RI.mono _)) bC aS
    refine Af (Af ?_)
    refine AT 16 Aw (by kernel_rfl) m ?_
    refine Ag 0 16 Z f Z fun a f=>Ag 1 16 Z f Z fun a f=>q_p 2 16 Z f (fun _=>AD (f.eval Z) (f.eval Z) B7) fun a f=>Ag 3 16 Z f Z fun a f=> ?_
    obtain⟨bD,bE,bA⟩:=bind_some bA
    refine BN (fuel':=0) (listed':= #[true,true,true,true,true,true,true,true,true,true,true,true,true,true,true,true]) (fun a=>Fr a 90 [(0,v0),(1,(.int .i64 x1)),(4,(.func (.func 58) #[] #[])),(11,(.int .i64 aV)),(12,(.int .i64 bw)),(50,(.int .i64 aV)),(51,(.int .i64 bw)),(52,(.bool (decide (aV≤bw)))),(53,(.bool (decide (aV≤bw)))),(65,(.bool bD))]) ?_ ?_
    ·intro a f
     refine AI fun bF w bG m=> ?_
     have aS:=Ow.mono (RTg.mono (RI.mono _)) bG aS
     refine Aa ?_
     rcases Ae bA with⟨bH,bA⟩|⟨bH,bA⟩
     ·refine Al f Z bH ?_
      refine Am ?_
      refine Aj (Ak ?_)
      refine Ab f Z fun a f=>Ah f Z Z AH fun a f=>Ad f Z fun a f=>Aa ?_
      obtain rfl:=sj bA
      exact⟨_,Z,_,Z,_,(gt bC bG),f.k Z,m⟩
     ·refine Ai f Z bH ?_
      refine Ax Z ?_
      obtain rfl:=sj bA
      obtain rfl:=bB _ rfl
      exact⟨_,Z,_,(gt bC bG),f.k Z,m⟩
    ·intro bI
     rcases Ae bE with⟨bJ,bE⟩|⟨bJ,bE⟩
     ·refine Ag (hw:=wo f bJ) 4 16 Z f Z fun a f=> ?_
      refine Ag (hw:=wo f bJ) 5 16 Z f Z fun a f=>Ag (hw:=wo f bJ) 6 16 Z f Z fun a f=> ?_
      obtain⟨bK,bL,bE⟩:=bind_some bE
      refine Az (hw:=wo f bJ) 7 16 0 m aS T22 bL Z f Z Z fun bM a bN f=>AL (hw:=wo f bJ) 8 16 0 aS AY bN bL Z f Z fun bO a bP f=>Ag (hw:=wo f bJ) 9 16 Z f Z fun a f=>Ag (hw:=wo f bJ) 10 16 Z f Z fun a f=> ?_
      obtain⟨bQ,bR,bE⟩:=bind_some bE
      refine Az (hw:=wo f bJ) 11 16 0 m aS T22 bR Z f Z Z fun bS a bT f=>AL (hw:=wo f bJ) 12 16 0 aS AY bT bR Z f Z fun bU a bV f=> ?_
      obtain⟨bW,bX,bE⟩:=bind_some bE
      refine Ck (i:=13) 16 Z (by kernel_rfl) Z f (AQ f Z Z Z bJ) Z Z Z Tryz.call58 (fun _ _ w bY m=>Wk.a m (rd1 bY (bP.2)) (rd1 bY (bV.2)) bX) fun a f=>q_p (hw:=wo f bJ) 14 16 Z f (fun _=>AD (f.eval Z) (f.eval Z) AJ) fun a f=>q_p 15 16 Z f (fun _=>AO (f.eval Z) bJ (f.eval Z)) fun a f=> ?_
      obtain rfl:=sj bE
      exact bI _ (f.k Z)
     ·refine An 4 16 Z f bJ fun a f=> ?_
      refine An 5 16 Z f bJ fun a f=>An 6 16 Z f bJ fun a f=>An 7 16 Z f bJ fun a f=>An 8 16 Z f bJ fun a f=>An 9 16 Z f bJ fun a f=>An 10 16 Z f bJ fun a f=>An 11 16 Z f bJ fun a f=>An 12 16 Z f bJ fun a f=>An 13 16 Z f bJ fun a f=>An 14 16 Z f bJ fun a f=>q_p 15 16 Z f (fun _=>AP (f.eval Z) bJ (f.eval Z)) fun a f=> ?_
      obtain rfl:=sj bE
      exact bI _ (f.k Z)
   ·rintro a w ⟨bt,rfl,bu,bZ,f,m⟩
    have aS:=Ow.mono (RTg.mono (RI.mono _)) bZ aS
    refine Af (Ac ?_)
    refine Ab f Z fun a f=>Ab f Z fun a f=>Ah f Z Z BV fun a f=>Aa ?_
    rcases Ae aP with⟨b0,aP⟩|⟨b0,aP⟩
    ·refine Al f Z b0 ?_
     refine Ax Z ?_
     obtain rfl:=sj aP
     obtain rfl:=aQ _ rfl
     exact⟨_,_,Z,_,aN,(gt aR (gt bq bZ)),f.k Z,m,aS⟩
    ·refine Ai f Z b0 ?_
     refine Am ?_
     refine Af ?_
     refine Bv Aw m ?_
     refine p_p 2 Z (by kernel_rfl) f Z Z Z (fun _=>AX (f.eval Z)) fun a f=>p_p 3 Z (by kernel_rfl) f Z Z Z (fun _=>AX (f.eval Z)) fun a f=>Bu 12013 11 (by kernel_rfl) Z ?_
     refine Ag 0 12013 Z f Z fun a f=>Ag 1 12013 Z f Z fun a f=>Ag 4 12013 Z f Z fun a f=>Ag 5 12013 Z f Z fun a f=> ?_
     obtain⟨b1,b2,aP⟩:=bind_some aP
     refine Az 6 12013 0 m aS T22 b2 Z f Z Z fun b3 a b4 f=>AL 7 12013 0 aS AY b4 b2 Z f Z fun b5 a b6 f=>Ag 8 12013 Z f Z fun a f=>Ag 9 12013 Z f Z fun a f=> ?_
     obtain⟨b7,b8,aP⟩:=bind_some aP
     refine Az 10 12013 0 m aS T22 b8 Z f Z Z fun b9 a ca f=>AL 11 12013 0 aS AY ca b8 Z f Z fun cb a cc f=> ?_
     obtain⟨cd,ce,aP⟩:=bind_some aP
     refine Az 12 12013 0 m aS T22 ce Z f Z Z fun cf a cg f=>AI fun ch w ci m=> ?_
     have b6:=(RTg.mono (RI.mono _)) _ _ _ _ ci b6
     have cc:=(RTg.mono (RI.mono _)) _ _ _ _ ci cc
     have aS:=Ow.mono (RTg.mono (RI.mono _)) ci aS
     refine Au 0 m aS Z Tryz.sizeOf42 f Z Z cg ce b6.cells b6.one1 b6 fun cj w m ck=> ?_
     obtain⟨cl,cm,aP⟩:=bind_some aP
     refine AW 0 m ck Z T22 f Z Z Z cm fun cn a co f=>Au 0 m ck Z Tryz.sizeOf42 f Z Z co cm cc.cells cc.one1 cc fun cp w m cq=>Aa (Ac ?_)
     refine Ab f Z fun a f=>Ah f Z Z Ar fun a f=>Ad f Z fun a f=>Aa (Ak ?_)
     refine Ab f Z fun a f=>Ah f Z Z AH fun a f=>Ad f Z fun a f=>Aa ?_
     obtain rfl:=sj aP
     exact⟨_,Z,_,_,_,Z,_,cp,(gt aR (gt bq (gt bZ ci))),f.k Z,m,cq⟩
 ·rintro a w ⟨aE,aF,rfl,aG,aH,cr,f,m,cs⟩
  refine Ac ?_
  refine Ab f Z fun a f=>Ad f Z fun a f=>Aa ?_
  refine Aq ?_
  obtain rfl:=sj hd
  exact⟨[(.int .i64 aF)],⟨f.get _ _ Z,trivial⟩,f.defers,_,[aH],(gt ar cr),m,_,Z,Z,cs⟩
theorem Wk.g1 {W w:World}{G:GH}{H:List Itm}{v0:Value}{it0:Itm}{x0:(List (Value×List Int))}{x1:Int}{x2:Int}{x3:Int}(m:Mem W G w (it0::H))(o0:Ow (RTg (RI .i64)) 42 G it0 v0 x0){y:Int×Bool×((List (Value×List Int)))}(hd:D.g1 x0 x1 x2 x3=some y):
  Calls Tryz.prog 161 #[v0,(.int .i64 x1),(.int .i64 x2),(.int .i64 x3),(.func (.func 58) #[] #[])] w (Res W G H (fun G' Ho v=>∃i0:Itm,Ho=[i0]∧v= .tuple #[(.int .i64 y.1),(.bool y.2.1)]∧Ow (RTg (RI .i64)) 42 G' i0 v0 y.2.2)):=by
 refine As (args:=[v0,(.int .i64 x1),(.int .i64 x2),(.int .i64 x3),(.func (.func 58) #[] #[])]) (N:=178) [.tmp 10,.tmp 11] Tryz.func161 Z Z (Nat.le_of_ble_eq_true Z) Z fun a f=> ?_
 unfold D.g1 at hd
 refine Ac ?_
 refine Ad f Z fun a f=>Ad f Z fun a f=>Aa (Af ?_)
 refine Bv Aw m ?_
 refine p_p 2 Z (by kernel_rfl) f Z Z Z (fun _=>AX (f.eval Z)) fun a f=>p_p 3 Z (by kernel_rfl) f Z Z Z (fun _=>AX (f.eval Z)) fun a f=>Bu 12013 11 (by kernel_rfl) Z ?_
 refine Ag 0 12013 Z f Z fun a f=>Ag 1 12013 Z f Z fun a f=>Ag 4 12013 Z f Z fun a f=>Ag 5 12013 Z f Z fun a f=> ?_
 obtain⟨aa,ab,hd⟩:=bind_some hd
 refine Az 6 12013 0 m o0 T22 ab Z f Z Z fun ac a ad f=>AL 7 12013 0 o0 AY ad ab Z f Z fun ae a af f=>Ag 8 12013 Z f Z fun a f=>Ag 9 12013 Z f Z fun a f=> ?_
 obtain⟨ag,ah,hd⟩:=bind_some hd
 refine Az 10 12013 0 m o0 T22 ah Z f Z Z fun ai a aj f=>AL 11 12013 0 o0 AY aj ah Z f Z fun ak a al f=> ?_
 obtain⟨am,an,hd⟩:=bind_some hd
 refine Az 12 12013 0 m o0 T22 an Z f Z Z fun ao a ap f=>AI fun aq w ar m=> ?_
 have af:=(RTg.mono (RI.mono _)) _ _ _ _ ar af
 have al:=(RTg.mono (RI.mono _)) _ _ _ _ ar al
 have o0:=Ow.mono (RTg.mono (RI.mono _)) ar o0
 refine Au 0 m o0 Z Tryz.sizeOf42 f Z Z ap an af.cells af.one1 af fun au w m av=> ?_
 obtain⟨aw,ax,hd⟩:=bind_some hd
 refine AW 0 m av Z T22 f Z Z Z ax fun ay a az f=>Au 0 m av Z Tryz.sizeOf42 f Z Z az ax al.cells al.one1 al fun aA w m aB=>Aa (Ac ?_)
 refine Ab f Z fun a f=>Ah f Z Z Ar fun a f=>Ab f Z fun a f=>Ah f Z Z AH fun a f=>Ad f Z fun a f=>Ad f Z fun a f=>Aa (Af ?_)
 obtain⟨aC,aD,hd⟩:=bind_some hd
 refine AC (fun a w=>∃aE:Int,aE=aC∧∃(aF:GH),GLe aq aF∧Fr a 178 [(0,v0),(1,(.int .i64 x1)),(4,(.func (.func 58) #[] #[])),(12,(.int .i64 aE)),(13,(.int .i64 (IntKind.i64.wrap (x2-1))))]∧Mem W aF w (aA::H)) ?_ ?_
 ·refine Aj ?_
  refine AA (fun aG a w=>∃aH:Int,aH=aG∧∃(aI:GH),GLe aq aI∧Fr a 178 [(0,v0),(1,(.int .i64 x1)),(4,(.func (.func 58) #[] #[])),(12,(.int .i64 aH)),(13,(.int .i64 (IntKind.i64.wrap (x2-1))))]∧Mem W aI w (aA::H)) aD ⟨_,Z,_,gr,f.k Z,m⟩ ?_
  clear aD f m
  rintro aG aJ aK aL a w ⟨aH,rfl,aI,aM,f,m⟩
  have aB:=Ow.mono (RTg.mono (RI.mono _)) aM aB
  refine Af (Af ?_)
  refine AT 16 Aw (by kernel_rfl) m ?_
  refine Ag 0 16 Z f Z fun a f=>Ag 1 16 Z f Z fun a f=>q_p 2 16 Z f (fun _=>AD (f.eval Z) (f.eval Z) B7) fun a f=>Ag 3 16 Z f Z fun a f=> ?_
  obtain⟨aN,aO,aK⟩:=bind_some aK
  refine BN (fuel':=0) (listed':= #[true,true,true,true,true,true,true,true,true,true,true,true,true,true,true,true]) (fun a=>Fr a 178 [(0,v0),(1,(.int .i64 x1)),(4,(.func (.func 58) #[] #[])),(12,(.int .i64 aH)),(13,(.int .i64 (IntKind.i64.wrap (x2-1)))),(32,(.int .i64 aH)),(33,(.int .i64 (IntKind.i64.wrap (x2-1)))),(34,(.bool (decide (aH≤(IntKind.i64.wrap (x2-1)))))),(35,(.bool (decide (aH≤(IntKind.i64.wrap (x2-1)))))),(47,(.bool aN))]) ?_ ?_
  ·intro a f
   refine AI fun aP w aQ m=> ?_
   have aB:=Ow.mono (RTg.mono (RI.mono _)) aQ aB
   refine Aa ?_
   rcases Ae aK with⟨aR,aK⟩|⟨aR,aK⟩
   ·refine Al f Z aR ?_
    refine Am ?_
    refine Aj (Ak ?_)
    refine Ab f Z fun a f=>Ah f Z Z Ar fun a f=>Ad f Z fun a f=>Aa ?_
    obtain rfl:=sj aK
    exact⟨_,Z,_,Z,_,(gt aM aQ),f.k Z,m⟩
   ·refine Ai f Z aR ?_
    refine Ax Z ?_
    obtain rfl:=sj aK
    obtain rfl:=aL _ rfl
    exact⟨_,Z,_,(gt aM aQ),f.k Z,m⟩
  ·intro aS
   rcases Ae aO with⟨aT,aO⟩|⟨aT,aO⟩
   ·refine Ag (hw:=wo f aT) 4 16 Z f Z fun a f=> ?_
    refine Ag (hw:=wo f aT) 5 16 Z f Z fun a f=>Ag (hw:=wo f aT) 6 16 Z f Z fun a f=> ?_
    obtain⟨aU,aV,aO⟩:=bind_some aO
    refine Az (hw:=wo f aT) 7 16 0 m aB T22 aV Z f Z Z fun aW a aX f=>AL (hw:=wo f aT) 8 16 0 aB AY aX aV Z f Z fun aY a aZ f=>Ag (hw:=wo f aT) 9 16 Z f Z fun a f=>Ag (hw:=wo f aT) 10 16 Z f Z fun a f=> ?_
    obtain⟨a0,a1,aO⟩:=bind_some aO
    refine Az (hw:=wo f aT) 11 16 0 m aB T22 a1 Z f Z Z fun a2 a a3 f=>AL (hw:=wo f aT) 12 16 0 aB AY a3 a1 Z f Z fun a4 a a5 f=> ?_
    obtain⟨a6,a7,aO⟩:=bind_some aO
    refine Ck (i:=13) 16 Z (by kernel_rfl) Z f (AQ f Z Z Z aT) Z Z Z Tryz.call58 (fun _ _ w a8 m=>Wk.a m (rd1 a8 (aZ.2)) (rd1 a8 (a5.2)) a7) fun a f=>q_p (hw:=wo f aT) 14 16 Z f (fun _=>AD (f.eval Z) (f.eval Z) AJ) fun a f=>q_p 15 16 Z f (fun _=>AO (f.eval Z) aT (f.eval Z)) fun a f=> ?_
    obtain rfl:=sj aO
    exact aS _ (f.k Z)
   ·refine An 4 16 Z f aT fun a f=> ?_
    refine An 5 16 Z f aT fun a f=>An 6 16 Z f aT fun a f=>An 7 16 Z f aT fun a f=>An 8 16 Z f aT fun a f=>An 9 16 Z f aT fun a f=>An 10 16 Z f aT fun a f=>An 11 16 Z f aT fun a f=>An 12 16 Z f aT fun a f=>An 13 16 Z f aT fun a f=>An 14 16 Z f aT fun a f=>q_p 15 16 Z f (fun _=>AP (f.eval Z) aT (f.eval Z)) fun a f=> ?_
    obtain rfl:=sj aO
    exact aS _ (f.k Z)
 ·rintro a w ⟨aE,rfl,aF,a9,f,m⟩
  have aB:=Ow.mono (RTg.mono (RI.mono _)) a9 aB
  refine Af ?_
  obtain⟨ba,bb,hd⟩:=bind_some hd
  refine AC (fun a w=>∃bc:Int,bc=ba∧∃(bd:GH),GLe aF bd∧Fr a 178 [(0,v0),(1,(.int .i64 x1)),(4,(.func (.func 58) #[] #[])),(12,(.int .i64 aE)),(13,(.int .i64 bc))]∧Mem W bd w (aA::H)) ?_ ?_
  ·refine Aj ?_
   refine AA (fun be a w=>∃bf:Int,bf=be∧∃(bg:GH),GLe aF bg∧Fr a 178 [(0,v0),(1,(.int .i64 x1)),(4,(.func (.func 58) #[] #[])),(12,(.int .i64 aE)),(13,(.int .i64 bf))]∧Mem W bg w (aA::H)) bb ⟨_,Z,_,gr,f.k Z,m⟩ ?_
   clear bb f m
   rintro be bh bi bj a w ⟨bf,rfl,bg,bk,f,m⟩
   have aB:=Ow.mono (RTg.mono (RI.mono _)) bk aB
   refine Af (Af ?_)
   refine AT 17 Aw (by kernel_rfl) m ?_
   refine Ag 0 17 Z f Z fun a f=>Ag 1 17 Z f Z fun a f=>q_p 2 17 Z f (fun _=>AD (f.eval Z) (f.eval Z) B7) fun a f=>Ag 3 17 Z f Z fun a f=> ?_
   obtain⟨bl,bm,bi⟩:=bind_some bi
   refine BN (fuel':=0) (listed':= #[true,true,true,true,true,true,true,true,true,true,true,true,true,true,true,true,true]) (fun a=>Fr a 178 [(0,v0),(1,(.int .i64 x1)),(4,(.func (.func 58) #[] #[])),(12,(.int .i64 aE)),(13,(.int .i64 bf)),(50,(.int .i64 aE)),(51,(.int .i64 bf)),(52,(.bool (decide (aE≤bf)))),(53,(.bool (decide (aE≤bf)))),(66,(.bool bl))]) ?_ ?_
   ·intro a f
    refine AI fun bn w bo m=> ?_
    have aB:=Ow.mono (RTg.mono (RI.mono _)) bo aB
    refine Aa ?_
    rcases Ae bi with⟨bp,bi⟩|⟨bp,bi⟩
    ·refine Al f Z bp ?_
     refine Am ?_
     refine Aj (Ak ?_)
     refine Ab f Z fun a f=>Ah f Z Z AH fun a f=>Ad f Z fun a f=>Aa ?_
     obtain rfl:=sj bi
     exact⟨_,Z,_,Z,_,(gt bk bo),f.k Z,m⟩
    ·refine Ai f Z bp ?_
     refine Ax Z ?_
     obtain rfl:=sj bi
     obtain rfl:=bj _ rfl
     exact⟨_,Z,_,(gt bk bo),f.k Z,m⟩
   ·intro bq
    rcases Ae bm with⟨br,bm⟩|⟨br,bm⟩
    ·refine Ag (hw:=wo f br) 4 17 Z f Z fun a f=> ?_
     refine Ag (hw:=wo f br) 5 17 Z f Z fun a f=>Ag (hw:=wo f br) 6 17 Z f Z fun a f=> ?_
     obtain⟨bs,bt,bm⟩:=bind_some bm
     refine Az (hw:=wo f br) 7 17 0 m aB T22 bt Z f Z Z fun bu a bv f=>AL (hw:=wo f br) 8 17 0 aB AY bv bt Z f Z fun bw a bx f=>Ag (hw:=wo f br) 9 17 Z f Z fun a f=>Ag (hw:=wo f br) 10 17 Z f Z fun a f=> ?_
     obtain⟨bz,bA,bm⟩:=bind_some bm
     refine Az (hw:=wo f br) 11 17 0 m aB T22 bA Z f Z Z fun bB a bC f=>AL (hw:=wo f br) 12 17 0 aB AY bC bA Z f Z fun bD a bE f=> ?_
     obtain⟨bF,bG,bm⟩:=bind_some bm
     refine Ck (i:=13) 17 Z (by kernel_rfl) Z f (AQ f Z Z Z br) Z Z Z Tryz.call58 (fun _ _ w bH m=>Wk.a m (rd1 bH (bx.2)) (rd1 bH (bE.2)) bG) fun a f=>q_p (hw:=wo f br) 14 17 Z f (fun _=>AD (f.eval Z) (f.eval Z) AJ) fun a f=>q_p (hw:=wo f br) 15 17 Z f (fun _=>Bd (f.eval Z)) fun a f=>q_p 16 17 Z f (fun _=>AO (f.eval Z) br (f.eval Z)) fun a f=> ?_
     obtain rfl:=sj bm
     exact bq _ (f.k Z)
    ·refine An 4 17 Z f br fun a f=> ?_
     refine An 5 17 Z f br fun a f=>An 6 17 Z f br fun a f=>An 7 17 Z f br fun a f=>An 8 17 Z f br fun a f=>An 9 17 Z f br fun a f=>An 10 17 Z f br fun a f=>An 11 17 Z f br fun a f=>An 12 17 Z f br fun a f=>An 13 17 Z f br fun a f=>An 14 17 Z f br fun a f=>An 15 17 Z f br fun a f=>q_p 16 17 Z f (fun _=>AP (f.eval Z) br (f.eval Z)) fun a f=> ?_
     obtain rfl:=sj bm
     exact bq _ (f.k Z)
  ·rintro a w ⟨bc,rfl,bd,bI,f,m⟩
   have aB:=Ow.mono (RTg.mono (RI.mono _)) bI aB
   refine Af (Ac ?_)
   refine Ab f Z fun a f=>Ab f Z fun a f=>Ah f Z Z BV fun a f=>Aa ?_
   rcases Ae hd with⟨bJ,hd⟩|⟨bJ,hd⟩
   ·refine Al f Z bJ ?_
    refine Af ?_
    refine Bv Aw m ?_
    refine p_p 2 Z (by kernel_rfl) f Z Z Z (fun _=>AX (f.eval Z)) fun a f=>p_p 3 Z (by kernel_rfl) f Z Z Z (fun _=>AX (f.eval Z)) fun a f=>Bu 12013 11 (by kernel_rfl) Z ?_
    refine Ag 0 12013 Z f Z fun a f=>Ag 1 12013 Z f Z fun a f=>Ag 4 12013 Z f Z fun a f=>Ag 5 12013 Z f Z fun a f=> ?_
    obtain⟨bK,bL,hd⟩:=bind_some hd
    refine Az 6 12013 0 m aB T22 bL Z f Z Z fun bM a bN f=>AL 7 12013 0 aB AY bN bL Z f Z fun bO a bP f=>Ag 8 12013 Z f Z fun a f=>Ag 9 12013 Z f Z fun a f=> ?_
    obtain⟨bQ,bR,hd⟩:=bind_some hd
    refine Az 10 12013 0 m aB T22 bR Z f Z Z fun bS a bT f=>AL 11 12013 0 aB AY bT bR Z f Z fun bU a bV f=> ?_
    obtain⟨bW,bX,hd⟩:=bind_some hd
    refine Az 12 12013 0 m aB T22 bX Z f Z Z fun bY a bZ f=>AI fun b0 w b1 m=> ?_
    have bP:=(RTg.mono (RI.mono _)) _ _ _ _ b1 bP
    have bV:=(RTg.mono (RI.mono _)) _ _ _ _ b1 bV
    have aB:=Ow.mono (RTg.mono (RI.mono _)) b1 aB
    refine Au 0 m aB Z Tryz.sizeOf42 f Z Z bZ bX bP.cells bP.one1 bP fun b2 w m b3=> ?_
    obtain⟨b4,b5,hd⟩:=bind_some hd
    refine AW 0 m b3 Z T22 f Z Z Z b5 fun b6 a b7 f=>Au 0 m b3 Z Tryz.sizeOf42 f Z Z b7 b5 bV.cells bV.one1 bV fun b8 w m b9=>Aa (Ac ?_)
    refine Ab f Z fun a f=>Ad f Z fun a f=>Ad f Z fun a f=>Aa ?_
    refine Aq ?_
    obtain rfl:=sj hd
    exact⟨[(.int .i64 bc),(.bool true)],⟨f.get _ _ Z,f.get _ _ Z,trivial⟩,f.defers,_,[b8],(gt ar (gt a9 (gt bI b1))),m,_,Z,Z,b9⟩
   ·refine Ai f Z bJ ?_
    refine Am ?_
    refine Af ?_
    refine Bv Aw m ?_
    refine p_p 2 Z (by kernel_rfl) f Z Z Z (fun _=>AX (f.eval Z)) fun a f=>p_p 3 Z (by kernel_rfl) f Z Z Z (fun _=>AX (f.eval Z)) fun a f=>Bu 12013 11 (by kernel_rfl) Z ?_
    refine Ag 0 12013 Z f Z fun a f=>Ag 1 12013 Z f Z fun a f=>Ag 4 12013 Z f Z fun a f=>Ag 5 12013 Z f Z fun a f=> ?_
    obtain⟨ca,cb,hd⟩:=bind_some hd
    refine Az 6 12013 0 m aB T22 cb Z f Z Z fun cc a cd f=>AL 7 12013 0 aB AY cd cb Z f Z fun ce a cf f=>Ag 8 12013 Z f Z fun a f=>Ag 9 12013 Z f Z fun a f=> ?_
    obtain⟨cg,ch,hd⟩:=bind_some hd
    refine Az 10 12013 0 m aB T22 ch Z f Z Z fun ci a cj f=>AL 11 12013 0 aB AY cj ch Z f Z fun ck a cl f=> ?_
    obtain⟨cm,cn,hd⟩:=bind_some hd
    refine Az 12 12013 0 m aB T22 cn Z f Z Z fun co a cp f=>AI fun cq w cr m=> ?_
    have cf:=(RTg.mono (RI.mono _)) _ _ _ _ cr cf
    have cl:=(RTg.mono (RI.mono _)) _ _ _ _ cr cl
    have aB:=Ow.mono (RTg.mono (RI.mono _)) cr aB
    refine Au 0 m aB Z Tryz.sizeOf42 f Z Z cp cn cf.cells cf.one1 cf fun cs w m ct=> ?_
    obtain⟨cu,cv,hd⟩:=bind_some hd
    refine AW 0 m ct Z T22 f Z Z Z cv fun cw a cx f=>Au 0 m ct Z Tryz.sizeOf42 f Z Z cx cv cl.cells cl.one1 cl fun cy w m cz=>Aa (Ac ?_)
    refine Ab f Z fun a f=>Ah f Z Z Ar fun a f=>Ad f Z fun a f=>Aa (Ac ?_)
    refine Ab f Z fun a f=>Ah f Z Z AH fun a f=>Ad f Z fun a f=>Aa (Af ?_)
    obtain⟨cA,cB,hd⟩:=bind_some hd
    refine AC (fun a w=>∃cC:List (Value×List Int),∃cD:Int,(cC,cD)=cA∧∃(cE:GH) (cF:Itm),GLe cq cE∧Fr a 178 [(0,v0),(1,(.int .i64 x1)),(13,(.int .i64 cD))]∧Mem W cE w (cF::H)∧Ow (RTg (RI .i64)) 42 cE cF v0 cC) ?_ ?_
    ·refine Aj ?_
     refine AA (fun cG a w=>∃cH:List (Value×List Int),∃cI:Int,∃cJ:Int,(cH,cI,cJ)=cG∧∃(cK:GH) (cL:Itm),GLe cq cK∧Fr a 178 [(0,v0),(1,(.int .i64 x1)),(4,(.func (.func 58) #[] #[])),(12,(.int .i64 cI)),(13,(.int .i64 cJ))]∧Mem W cK w (cL::H)∧Ow (RTg (RI .i64)) 42 cK cL v0 cH) cB ⟨_,_,_,Z,_,cy,gr,f.k Z,m,cz⟩ ?_
     clear cB f m
     rintro cG cM cN cO a w ⟨cH,cI,cJ,rfl,cK,cL,cP,f,m,cQ⟩
     refine Aj (Af ?_)
     obtain⟨cR,cS,cN⟩:=bind_some cN
     refine AC (fun a w=>∃cT:Int,cT=cR∧∃(cU:GH),GLe cK cU∧Fr a 178 [(0,v0),(1,(.int .i64 x1)),(4,(.func (.func 58) #[] #[])),(12,(.int .i64 cT)),(13,(.int .i64 cJ))]∧Mem W cU w (cL::H)) ?_ ?_
     ·refine Aj ?_
      refine AA (fun cV a w=>∃cW:Int,cW=cV∧∃(cX:GH),GLe cK cX∧Fr a 178 [(0,v0),(1,(.int .i64 x1)),(4,(.func (.func 58) #[] #[])),(12,(.int .i64 cW)),(13,(.int .i64 cJ))]∧Mem W cX w (cL::H)) cS ⟨_,Z,_,gr,f.k Z,m⟩ ?_
      clear cS f m
      rintro cV cY cZ c0 a w ⟨cW,rfl,cX,c1,f,m⟩
      have cQ:=Ow.mono (RTg.mono (RI.mono _)) c1 cQ
      refine Af (Af ?_)
      refine AT 16 Aw (by kernel_rfl) m ?_
      refine Ag 0 16 Z f Z fun a f=>Ag 1 16 Z f Z fun a f=>q_p 2 16 Z f (fun _=>AD (f.eval Z) (f.eval Z) B7) fun a f=>Ag 3 16 Z f Z fun a f=> ?_
      obtain⟨c2,c3,cZ⟩:=bind_some cZ
      refine BN (fuel':=0) (listed':= #[true,true,true,true,true,true,true,true,true,true,true,true,true,true,true,true]) (fun a=>Fr a 178 [(0,v0),(1,(.int .i64 x1)),(4,(.func (.func 58) #[] #[])),(12,(.int .i64 cW)),(13,(.int .i64 cJ)),(105,(.int .i64 cW)),(106,(.int .i64 cJ)),(107,(.bool (decide (cW≤cJ)))),(108,(.bool (decide (cW≤cJ)))),(120,(.bool c2))]) ?_ ?_
      ·intro a f
       refine AI fun c4 w c5 m=> ?_
       have cQ:=Ow.mono (RTg.mono (RI.mono _)) c5 cQ
       refine Aa ?_
       rcases Ae cZ with⟨c6,cZ⟩|⟨c6,cZ⟩
       ·refine Al f Z c6 ?_
        refine Am ?_
        refine Aj (Ak ?_)
        refine Ab f Z fun a f=>Ah f Z Z Ar fun a f=>Ad f Z fun a f=>Aa ?_
        obtain rfl:=sj cZ
        exact⟨_,Z,_,Z,_,(gt c1 c5),f.k Z,m⟩
       ·refine Ai f Z c6 ?_
        refine Ax Z ?_
        obtain rfl:=sj cZ
        obtain rfl:=c0 _ rfl
        exact⟨_,Z,_,(gt c1 c5),f.k Z,m⟩
      ·intro c7
       rcases Ae c3 with⟨c8,c3⟩|⟨c8,c3⟩
       ·refine Ag (hw:=wo f c8) 4 16 Z f Z fun a f=> ?_
        refine Ag (hw:=wo f c8) 5 16 Z f Z fun a f=>Ag (hw:=wo f c8) 6 16 Z f Z fun a f=> ?_
        obtain⟨c9,da,c3⟩:=bind_some c3
        refine Az (hw:=wo f c8) 7 16 0 m cQ T22 da Z f Z Z fun db a dc f=>AL (hw:=wo f c8) 8 16 0 cQ AY dc da Z f Z fun dd a de f=>Ag (hw:=wo f c8) 9 16 Z f Z fun a f=>Ag (hw:=wo f c8) 10 16 Z f Z fun a f=> ?_
        obtain⟨df,dg,c3⟩:=bind_some c3
        refine Az (hw:=wo f c8) 11 16 0 m cQ T22 dg Z f Z Z fun dh a di f=>AL (hw:=wo f c8) 12 16 0 cQ AY di dg Z f Z fun dj a dk f=> ?_
        obtain⟨dl,dm,c3⟩:=bind_some c3
        refine Ck (i:=13) 16 Z (by kernel_rfl) Z f (AQ f Z Z Z c8) Z Z Z Tryz.call58 (fun _ _ w dn m=>Wk.a m (rd1 dn (de.2)) (rd1 dn (dk.2)) dm) fun a f=>q_p (hw:=wo f c8) 14 16 Z f (fun _=>AD (f.eval Z) (f.eval Z) AJ) fun a f=>q_p 15 16 Z f (fun _=>AO (f.eval Z) c8 (f.eval Z)) fun a f=> ?_
        obtain rfl:=sj c3
        exact c7 _ (f.k Z)
       ·refine An 4 16 Z f c8 fun a f=> ?_
        refine An 5 16 Z f c8 fun a f=>An 6 16 Z f c8 fun a f=>An 7 16 Z f c8 fun a f=>An 8 16 Z f c8 fun a f=>An 9 16 Z f c8 fun a f=>An 10 16 Z f c8 fun a f=>An 11 16 Z f c8 fun a f=>An 12 16 Z f c8 fun a f=>An 13 16 Z f c8 fun a f=>An 14 16 Z f c8 fun a f=>q_p 15 16 Z f (fun _=>AP (f.eval Z) c8 (f.eval Z)) fun a f=> ?_
        obtain rfl:=sj c3
        exact c7 _ (f.k Z)
     ·rintro a w ⟨cT,rfl,cU,dp,f,m⟩
      have cQ:=Ow.mono (RTg.mono (RI.mono _)) dp cQ
      refine Af ?_
      obtain⟨dq,dr,cN⟩:=bind_some cN
      refine AC (fun a w=>∃ds:Int,ds=dq∧∃(dt:GH),GLe cU dt∧Fr a 178 [(0,v0),(1,(.int .i64 x1)),(4,(.func (.func 58) #[] #[])),(12,(.int .i64 cT)),(13,(.int .i64 ds))]∧Mem W dt w (cL::H)) ?_ ?_
      ·refine Aj ?_
       refine AA (fun du a w=>∃dv:Int,dv=du∧∃(dw:GH),GLe cU dw∧Fr a 178 [(0,v0),(1,(.int .i64 x1)),(4,(.func (.func 58) #[] #[])),(12,(.int .i64 cT)),(13,(.int .i64 dv))]∧Mem W dw w (cL::H)) dr ⟨_,Z,_,gr,f.k Z,m⟩ ?_
       clear dr f m
       rintro du dx dy dz a w ⟨dv,rfl,dw,dA,f,m⟩
       have cQ:=Ow.mono (RTg.mono (RI.mono _)) dA cQ
       refine Af (Af ?_)
       refine AT 17 Aw (by kernel_rfl) m ?_
       refine Ag 0 17 Z f Z fun a f=>Ag 1 17 Z f Z fun a f=>q_p 2 17 Z f (fun _=>AD (f.eval Z) (f.eval Z) B7) fun a f=>Ag 3 17 Z f Z fun a f=> ?_
       obtain⟨dB,dC,dy⟩:=bind_some dy
       refine BN (fuel':=0) (listed':= #[true,true,true,true,true,true,true,true,true,true,true,true,true,true,true,true,true]) (fun a=>Fr a 178 [(0,v0),(1,(.int .i64 x1)),(4,(.func (.func 58) #[] #[])),(12,(.int .i64 cT)),(13,(.int .i64 dv)),(123,(.int .i64 cT)),(124,(.int .i64 dv)),(125,(.bool (decide (cT≤dv)))),(126,(.bool (decide (cT≤dv)))),(139,(.bool dB))]) ?_ ?_
       ·intro a f
        refine AI fun dD w dE m=> ?_
        have cQ:=Ow.mono (RTg.mono (RI.mono _)) dE cQ
        refine Aa ?_
        rcases Ae dy with⟨dF,dy⟩|⟨dF,dy⟩
        ·refine Al f Z dF ?_
         refine Am ?_
         refine Aj (Ak ?_)
         refine Ab f Z fun a f=>Ah f Z Z AH fun a f=>Ad f Z fun a f=>Aa ?_
         obtain rfl:=sj dy
         exact⟨_,Z,_,Z,_,(gt dA dE),f.k Z,m⟩
        ·refine Ai f Z dF ?_
         refine Ax Z ?_
         obtain rfl:=sj dy
         obtain rfl:=dz _ rfl
         exact⟨_,Z,_,(gt dA dE),f.k Z,m⟩
       ·intro dG
        rcases Ae dC with⟨dH,dC⟩|⟨dH,dC⟩
        ·refine Ag (hw:=wo f dH) 4 17 Z f Z fun a f=> ?_
         refine Ag (hw:=wo f dH) 5 17 Z f Z fun a f=>Ag (hw:=wo f dH) 6 17 Z f Z fun a f=> ?_
         obtain⟨dI,dJ,dC⟩:=bind_some dC
         refine Az (hw:=wo f dH) 7 17 0 m cQ T22 dJ Z f Z Z fun dK a dL f=>AL (hw:=wo f dH) 8 17 0 cQ AY dL dJ Z f Z fun dM a dN f=>Ag (hw:=wo f dH) 9 17 Z f Z fun a f=>Ag (hw:=wo f dH) 10 17 Z f Z fun a f=> ?_
         obtain⟨dO,dP,dC⟩:=bind_some dC
         refine Az (hw:=wo f dH) 11 17 0 m cQ T22 dP Z f Z Z fun dQ a dR f=>AL (hw:=wo f dH) 12 17 0 cQ AY dR dP Z f Z fun dS a dT f=> ?_
         obtain⟨dU,dV,dC⟩:=bind_some dC
         refine Ck (i:=13) 17 Z (by kernel_rfl) Z f (AQ f Z Z Z dH) Z Z Z Tryz.call58 (fun _ _ w dW m=>Wk.a m (rd1 dW (dN.2)) (rd1 dW (dT.2)) dV) fun a f=>q_p (hw:=wo f dH) 14 17 Z f (fun _=>AD (f.eval Z) (f.eval Z) AJ) fun a f=>q_p (hw:=wo f dH) 15 17 Z f (fun _=>Bd (f.eval Z)) fun a f=>q_p 16 17 Z f (fun _=>AO (f.eval Z) dH (f.eval Z)) fun a f=> ?_
         obtain rfl:=sj dC
         exact dG _ (f.k Z)
        ·refine An 4 17 Z f dH fun a f=> ?_
         refine An 5 17 Z f dH fun a f=>An 6 17 Z f dH fun a f=>An 7 17 Z f dH fun a f=>An 8 17 Z f dH fun a f=>An 9 17 Z f dH fun a f=>An 10 17 Z f dH fun a f=>An 11 17 Z f dH fun a f=>An 12 17 Z f dH fun a f=>An 13 17 Z f dH fun a f=>An 14 17 Z f dH fun a f=>An 15 17 Z f dH fun a f=>q_p 16 17 Z f (fun _=>AP (f.eval Z) dH (f.eval Z)) fun a f=> ?_
         obtain rfl:=sj dC
         exact dG _ (f.k Z)
      ·rintro a w ⟨ds,rfl,dt,dX,f,m⟩
       have cQ:=Ow.mono (RTg.mono (RI.mono _)) dX cQ
       refine Af (Ac ?_)
       refine Ab f Z fun a f=>Ab f Z fun a f=>Ah f Z Z BV fun a f=>Aa ?_
       rcases Ae cN with⟨dY,cN⟩|⟨dY,cN⟩
       ·refine Al f Z dY ?_
        refine Ax Z ?_
        obtain rfl:=sj cN
        obtain rfl:=cO _ rfl
        exact⟨_,_,Z,_,cL,(gt cP (gt dp dX)),f.k Z,m,cQ⟩
       ·refine Ai f Z dY ?_
        refine Am ?_
        refine Af ?_
        refine Bv Aw m ?_
        refine p_p 2 Z (by kernel_rfl) f Z Z Z (fun _=>AX (f.eval Z)) fun a f=>p_p 3 Z (by kernel_rfl) f Z Z Z (fun _=>AX (f.eval Z)) fun a f=>Bu 12013 11 (by kernel_rfl) Z ?_
        refine Ag 0 12013 Z f Z fun a f=>Ag 1 12013 Z f Z fun a f=>Ag 4 12013 Z f Z fun a f=>Ag 5 12013 Z f Z fun a f=> ?_
        obtain⟨dZ,d0,cN⟩:=bind_some cN
        refine Az 6 12013 0 m cQ T22 d0 Z f Z Z fun d1 a d2 f=>AL 7 12013 0 cQ AY d2 d0 Z f Z fun d3 a d4 f=>Ag 8 12013 Z f Z fun a f=>Ag 9 12013 Z f Z fun a f=> ?_
        obtain⟨d5,d6,cN⟩:=bind_some cN
        refine Az 10 12013 0 m cQ T22 d6 Z f Z Z fun d7 a d8 f=>AL 11 12013 0 cQ AY d8 d6 Z f Z fun d9 a ea f=> ?_
        obtain⟨eb,ec,cN⟩:=bind_some cN
        refine Az 12 12013 0 m cQ T22 ec Z f Z Z fun ed a ee f=>AI fun ef w eg m=> ?_
        have d4:=(RTg.mono (RI.mono _)) _ _ _ _ eg d4
        have ea:=(RTg.mono (RI.mono _)) _ _ _ _ eg ea
        have cQ:=Ow.mono (RTg.mono (RI.mono _)) eg cQ
        refine Au 0 m cQ Z Tryz.sizeOf42 f Z Z ee ec d4.cells d4.one1 d4 fun eh w m ei=> ?_
        obtain⟨ej,ek,cN⟩:=bind_some cN
        refine AW 0 m ei Z T22 f Z Z Z ek fun el a em f=>Au 0 m ei Z Tryz.sizeOf42 f Z Z em ek ea.cells ea.one1 ea fun en w m eo=>Aa (Ac ?_)
        refine Ab f Z fun a f=>Ah f Z Z Ar fun a f=>Ad f Z fun a f=>Aa (Ak ?_)
        refine Ab f Z fun a f=>Ah f Z Z AH fun a f=>Ad f Z fun a f=>Aa ?_
        obtain rfl:=sj cN
        exact⟨_,Z,_,_,_,Z,_,en,(gt cP (gt dp (gt dX eg))),f.k Z,m,eo⟩
    ·rintro a w ⟨cC,cD,rfl,cE,cF,ep,f,m,eq⟩
     refine Af ?_
     refine Bv Aw m ?_
     refine p_p 2 Z (by kernel_rfl) f Z Z Z (fun _=>AX (f.eval Z)) fun a f=>p_p 3 Z (by kernel_rfl) f Z Z Z (fun _=>AX (f.eval Z)) fun a f=>Bu 12013 11 (by kernel_rfl) Z ?_
     refine Ag 0 12013 Z f Z fun a f=>Ag 1 12013 Z f Z fun a f=>Ag 4 12013 Z f Z fun a f=>Ag 5 12013 Z f Z fun a f=> ?_
     obtain⟨er,es,hd⟩:=bind_some hd
     refine Az 6 12013 0 m eq T22 es Z f Z Z fun et a eu f=>AL 7 12013 0 eq AY eu es Z f Z fun ev a ew f=>Ag 8 12013 Z f Z fun a f=>Ag 9 12013 Z f Z fun a f=> ?_
     obtain⟨ex,ey,hd⟩:=bind_some hd
     refine Az 10 12013 0 m eq T22 ey Z f Z Z fun ez a eA f=>AL 11 12013 0 eq AY eA ey Z f Z fun eB a eC f=> ?_
     obtain⟨eD,eE,hd⟩:=bind_some hd
     refine Az 12 12013 0 m eq T22 eE Z f Z Z fun eF a eG f=>AI fun eH w eI m=> ?_
     have ew:=(RTg.mono (RI.mono _)) _ _ _ _ eI ew
     have eC:=(RTg.mono (RI.mono _)) _ _ _ _ eI eC
     have eq:=Ow.mono (RTg.mono (RI.mono _)) eI eq
     refine Au 0 m eq Z Tryz.sizeOf42 f Z Z eG eE ew.cells ew.one1 ew fun eJ w m eK=> ?_
     obtain⟨eL,eM,hd⟩:=bind_some hd
     refine AW 0 m eK Z T22 f Z Z Z eM fun eN a eO f=>Au 0 m eK Z Tryz.sizeOf42 f Z Z eO eM eC.cells eC.one1 eC fun eP w m eQ=>Aa (Ac ?_)
     refine Ab f Z fun a f=>Ad f Z fun a f=>Ad f Z fun a f=>Aa ?_
     refine Aq ?_
     obtain rfl:=sj hd
     exact⟨[(.int .i64 cD),(.bool false)],⟨f.get _ _ Z,f.get _ _ Z,trivial⟩,f.defers,_,[eP],(gt ar (gt a9 (gt bI (gt cr (gt ep eI))))),m,_,Z,Z,eQ⟩
theorem Wk.M {W:World}(n:Nat):∀{w:World} {G:GH} {H:List Itm} {v0:Value} {it0:Itm} {x0:(List (Value×List Int))} {x1:Int} {x2:Int} {x3:Int} (m:Mem W G w (it0::H)) (o0:Ow (RTg (RI .i64)) 42 G it0 v0 x0) {y:((List (Value×List Int)))} (hd:D.M n x0 x1 x2 x3=some y),
  Calls Tryz.prog 121 #[v0,(.int .i64 x1),(.int .i64 x2),(.int .i64 x3),(.func (.func 58) #[] #[])] w (Res W G H (fun G' Ho _=>∃i0:Itm,Ho=[i0]∧Ow (RTg (RI .i64)) 42 G' i0 v0 y)):=by
 induction n with
 |zero=>intros;rename_i hd;simp[D.M] at hd
 |succ fuel ih=>
  intro w G H v0 it0 x0 x1 x2 x3 m o0 y hd
  refine As (args:=[v0,(.int .i64 x1),(.int .i64 x2),(.int .i64 x3),(.func (.func 58) #[] #[])]) (N:=148) [] Tryz.func121 Z Z (Nat.le_of_ble_eq_true Z) Z fun a f=> ?_
  unfold D.M at hd
  refine Ac ?_
  refine Ad f Z fun a f=>Aa (Ac ?_)
  refine Ad f Z fun a f=>Aa ?_
  obtain⟨aa,ab,hd⟩:=bind_some hd
  refine Aj ?_
  refine AA (fun ac a w=>∃ad:List (Value×List Int),∃ae:Int,∃af:Int,∃ag:Int,∃ah:Bool,∃ai:Bool,(ad,ae,af,ag,ah,ai)=ac∧∃(aj:GH) (ak:Itm),GLe G aj∧Fr a 148 [(0,v0),(1,(.int .i64 ae)),(2,(.int .i64 af)),(3,(.int .i64 ag)),(4,(.func (.func 58) #[] #[])),(10,(.bool ah)),(11,(.bool ai))]∧Mem W aj w (ak::H)∧Ow (RTg (RI .i64)) 42 aj ak v0 ad) ab ⟨_,_,_,_,_,_,Z,_,it0,gr,f.k Z,m,o0⟩ ?_
  clear ab f m
  rintro ac al am an a w ⟨ad,ae,af,ag,ah,ai,rfl,aj,ak,ao,f,m,ap⟩
  refine Aj (Ac ?_)
  refine Ab f Z fun a f=>Ab f Z fun a f=>Ah f Z Z AH fun a f=>Ad f Z fun a f=>Aa (Af (Ac ?_))
  refine Ab f Z fun a f=>Ah f Z Z B7 fun a f=>Aa ?_
  rcases Ae am with⟨aq,am⟩|⟨aq,am⟩
  ·refine Al f Z aq ?_
   refine Ac ?_
   refine Ab f Z fun a f=>Ab f Z fun a f=>Ab f Z fun a f=>Ab f Z fun a f=> ?_
   obtain⟨ar,au,am⟩:=bind_some am
   refine AK f Z Tryz.call154 (Wk.d1 m ap au) fun av aw ax w ay m az a f=> ?_
   obtain⟨aA,rfl,aB⟩:=az
   refine Aa ?_
   refine Aq ?_
   obtain rfl:=sj am
   obtain rfl:=an _ rfl
   obtain rfl:=sj hd
   exact⟨[],trivial,f.defers,_,[aA],(gt ao ay),m,_,Z,aB⟩
  ·refine Ai f Z aq ?_
   refine Am ?_
   refine Af (Ac ?_)
   refine Ab f Z fun a f=>Ah f Z Z By fun a f=>Aa ?_
   rcases Ae am with⟨aC,am⟩|⟨aC,am⟩
   ·refine Al f Z aC ?_
    refine Ac ?_
    refine Ab f Z fun a f=>Ab f Z fun a f=>Ab f Z fun a f=>Ab f Z fun a f=> ?_
    obtain⟨aD,aE,am⟩:=bind_some am
    refine AK f Z Tryz.call155 (Wk.h1 m ap aE) fun aF aG aH w aI m aJ a f=> ?_
    obtain⟨aK,rfl,aL⟩:=aJ
    refine Aa ?_
    refine Aq ?_
    obtain rfl:=sj am
    obtain rfl:=an _ rfl
    obtain rfl:=sj hd
    exact⟨[],trivial,f.defers,_,[aK],(gt ao aI),m,_,Z,aL⟩
   ·refine Ai f Z aC ?_
    refine Am ?_
    refine Af (Ac ?_)
    refine Ab f Z fun a f=>l_o f (Bd (f.eval Z)) fun a f=>Aa ?_
    obtain⟨aM,aN,am⟩:=bind_some am
    refine AC (fun a w=>∃aO:List (Value×List Int),∃aP:Int,(aO,aP)=aM∧∃(aQ:GH) (aR:Itm),GLe aj aQ∧Fr a 148 [(0,v0),(1,(.int .i64 ae)),(2,(.int .i64 af)),(3,(.int .i64 aP)),(4,(.func (.func 58) #[] #[])),(10,(.bool ah)),(11,(.bool ai)),(12,(.int .i64 (IntKind.i64.wrap (af-ae))))]∧Mem W aQ w (aR::H)∧Ow (RTg (RI .i64)) 42 aQ aR v0 aO) ?_ ?_
    ·rcases Ae aN with⟨aS,aN⟩|⟨aS,aN⟩
     ·refine Al f Z aS ?_
      refine Ac ?_
      refine Ab f Z fun a f=>Ab f Z fun a f=>Ab f Z fun a f=>Ab f Z fun a f=> ?_
      obtain⟨aT,aU,aN⟩:=bind_some aN
      refine AK f Z Tryz.call156 (Wk.o1 m ap aU) fun aV aW aX w aY m aZ a f=> ?_
      obtain⟨a0,rfl,a1⟩:=aZ
      refine Aa (Ak ?_)
      refine Ab f Z fun a f=>Ah f Z Z AH fun a f=>Ad f Z fun a f=>Aa ?_
      obtain rfl:=sj aN
      exact⟨_,_,Z,_,a0,aY,f.k Z,m,a1⟩
     ·refine Ai f Z aS ?_
      refine Am ?_
      obtain rfl:=sj aN
      exact⟨_,_,Z,_,ak,gr,f.k Z,m,ap⟩
    ·rintro a w ⟨aO,aP,rfl,aQ,aR,a2,f,m,a3⟩
     refine Ac ?_
     refine Ab f Z fun a f=>Ab f Z fun a f=>Ab f Z fun a f=>Ab f Z fun a f=> ?_
     obtain⟨a4,a5,am⟩:=bind_some am
     refine AK f Z Tryz.call157 (Wk.a1 m a3 a5) fun a6 a7 a8 w a9 m ba a f=> ?_
     obtain⟨bb,rfl,rfl,bc⟩:=ba
     refine Ab f Z fun a f=>l_o f (Bb (f.eval Z) Z) fun a f=>l_o f (Bb (f.eval Z) Z) fun a f=>Ad f Z fun a f=>Ad f Z fun a f=>Aa (Af (Ac ?_))
     refine Ab f Z fun a f=>Ah f Z Z By fun a f=>Aa ?_
     obtain⟨bd,be,am⟩:=bind_some am
     refine AC (fun a w=>∃bf:List (Value×List Int),∃bg:Int,∃bh:Int,(bf,bg,bh)=bd∧∃(bi:GH) (bj:Itm),GLe a7 bi∧Fr a 148 [(0,v0),(1,(.int .i64 ae)),(2,(.int .i64 af)),(3,(.int .i64 aP)),(4,(.func (.func 58) #[] #[])),(10,(.bool ah)),(11,(.bool ai)),(12,(.int .i64 (IntKind.i64.wrap (af-ae)))),(13,(.int .i64 bg)),(14,(.int .i64 bh))]∧Mem W bi w (bj::H)∧Ow (RTg (RI .i64)) 42 bi bj v0 bf) ?_ ?_
     ·rcases Ae be with⟨bk,be⟩|⟨bk,be⟩
      ·refine Al f Z bk ?_
       refine Ac ?_
       refine Ab f Z fun a f=>Ab f Z fun a f=>Ab f Z fun a f=>Ab f Z fun a f=> ?_
       obtain⟨bl,bm,be⟩:=bind_some be
       refine AK f Z Tryz.call158 (Wk.m1 m bc bm) fun bn bo bp w bq m br a f=> ?_
       obtain⟨bs,rfl,bt⟩:=br
       refine Aa (Ac ?_)
       refine Ab f Z fun a f=>Ah f Z Z AH fun a f=>Ab f Z fun a f=>Ab f Z fun a f=>Ah f Z Z AH fun a f=>Ah f Z Z AH fun a f=>Ad f Z fun a f=>Aa (Ak ?_)
       refine Ad f Z fun a f=>Aa ?_
       obtain rfl:=sj be
       exact⟨_,_,_,Z,_,bs,bq,f.k Z,m,bt⟩
      ·refine Ai f Z bk ?_
       refine Am ?_
       obtain rfl:=sj be
       exact⟨_,_,_,Z,_,bb,gr,f.k Z,m,bc⟩
     ·rintro a w ⟨bf,bg,bh,rfl,bi,bj,bu,f,m,bv⟩
      refine Af (Ac ?_)
      refine Ab f Z fun a f=>Ab f Z fun a f=> ?_
      refine Bz 2 (fun a w=>∃bw,GLe bi bw∧Mem W bw w (bj::H)∧Fr a 148 [(0,v0),(1,(.int .i64 ae)),(2,(.int .i64 af)),(3,(.int .i64 aP)),(4,(.func (.func 58) #[] #[])),(10,(.bool ah)),(11,(.bool ai)),(12,(.int .i64 (IntKind.i64.wrap (af-ae)))),(13,(.int .i64 bg)),(14,(.int .i64 bh)),(68,(.bool ah)),(69,(.bool ah)),(71,(.bool (ah&&ai)))]) ?_ ?_
      ·rcases Bool.eq_false_or_eq_true ah with bx|bx
       ·refine AB f bx ?_
        refine Ab f Z fun a f=>l_o f (AO (f.eval Z) bx (f.eval Z)) fun a f=> ?_
        exact⟨_,gr,m,f.weak ⟨Z,Z,Z,Z,Z,Z,Z,Z,Z,Z,Z,Z,by rw[bx];rfl,trivial⟩⟩
       ·refine AE f bx fun a f=> ?_
        refine l_o f (AP (f.eval Z) bx (f.eval Z)) fun a f=> ?_
        exact⟨_,gr,m,f.weak ⟨Z,Z,Z,Z,Z,Z,Z,Z,Z,Z,Z,Z,by rw[bx];rfl,trivial⟩⟩
      ·rintro a w ⟨bw,bz,m,f⟩
       have bv:=Ow.mono (RTg.mono (RI.mono _)) bz bv
       refine Ab f Z fun a f=> ?_
       refine Bz 3 (fun a w=>∃bA,GLe bw bA∧Mem W bA w (bj::H)∧Fr a 148 [(0,v0),(1,(.int .i64 ae)),(2,(.int .i64 af)),(3,(.int .i64 aP)),(4,(.func (.func 58) #[] #[])),(10,(.bool ah)),(11,(.bool ai)),(12,(.int .i64 (IntKind.i64.wrap (af-ae)))),(13,(.int .i64 bg)),(14,(.int .i64 bh)),(68,(.bool ah)),(69,(.bool ah)),(71,(.bool (ah&&ai))),(72,(.bool (ah&&ai))),(75,(.bool ((ah&&ai)&&(bh==1))))]) ?_ ?_
       ·rcases Bool.eq_false_or_eq_true (ah&&ai) with bB|bB
        ·refine AB f bB ?_
         refine Ab f Z fun a f=>AB f bB ?_
         refine Ah f Z Z By fun a f=>l_o f (AO (f.eval Z) bB (f.eval Z)) fun a f=> ?_
         exact⟨_,gr,m,f.weak ⟨Z,Z,Z,Z,Z,Z,Z,Z,Z,Z,Z,Z,Z,Z,by rw[bB];rfl,trivial⟩⟩
        ·refine AE f bB fun a f=> ?_
         refine AE f bB fun a f=>l_o f (AP (f.eval Z) bB (f.eval Z)) fun a f=> ?_
         exact⟨_,gr,m,f.weak ⟨Z,Z,Z,Z,Z,Z,Z,Z,Z,Z,Z,Z,Z,Z,by rw[bB];rfl,trivial⟩⟩
       ·rintro a w ⟨bA,bC,m,f⟩
        have bv:=Ow.mono (RTg.mono (RI.mono _)) bC bv
        refine Aa ?_
        obtain⟨bD,bE,am⟩:=bind_some am
        refine AC (fun a w=>∃j_513':(List (Value×List Int)),bD= .inl j_513'∧∃bF:List (Value×List Int),bF=j_513'∧∃(bG:GH) (bH:Itm),GLe bA bG∧Fr a 148 [(0,v0),(1,(.int .i64 ae)),(2,(.int .i64 af)),(3,(.int .i64 aP)),(4,(.func (.func 58) #[] #[])),(10,(.bool ah)),(11,(.bool ai)),(12,(.int .i64 (IntKind.i64.wrap (af-ae)))),(13,(.int .i64 bg))]∧Mem W bG w (bH::H)∧Ow (RTg (RI .i64)) 42 bG bH v0 bF) ?_ ?_
        ·rcases Ae bE with⟨bI,bE⟩|⟨bI,bE⟩
         ·refine Al f Z bI ?_
          refine Ac ?_
          refine Ab f Z fun a f=>Ab f Z fun a f=>Ab f Z fun a f=>Ab f Z fun a f=> ?_
          obtain⟨bJ,bK,bE⟩:=bind_some bE
          refine AK f Z Tryz.call159 (Wk.j1 m bv bK) fun bL bM bN w bO m bP a f=> ?_
          obtain⟨bQ,rfl,rfl,bR⟩:=bP
          refine Aa ?_
          rcases Ae bE with⟨bS,bE⟩|⟨bS,bE⟩
          ·refine Al f Z bS ?_
           refine Aq ?_
           obtain rfl:=sj bE
           obtain rfl:=sj am
           obtain rfl:=an _ rfl
           obtain rfl:=sj hd
           exact⟨[],trivial,f.defers,_,[bQ],(gt ao (gt a2 (gt a9 (gt bu (gt bz (gt bC bO)))))),m,_,Z,bR⟩
          ·refine Ai f Z bS ?_
           refine Am ?_
           obtain rfl:=sj bE
           exact⟨_,Z,_,Z,_,bQ,bO,f.k Z,m,bR⟩
         ·refine Ai f Z bI ?_
          refine Am ?_
          obtain rfl:=sj bE
          exact⟨_,Z,_,Z,_,bj,gr,f.k Z,m,bv⟩
        ·rintro a w ⟨_,rfl,bF,rfl,bG,bH,bT,f,m,bU⟩
         refine Af (Af ?_)
         refine AT 17 Aw (by kernel_rfl) m ?_
         refine Ag 0 17 Z f Z fun a f=>q_p 1 17 Z f (fun _=>AD (f.eval Z) (f.eval Z) BV) fun a f=>Ag 2 17 Z f Z fun a f=> ?_
         obtain⟨bV,bW,am⟩:=bind_some am
         refine BN (fuel':=0) (listed':= #[true,true,true,true,true,true,true,true,true,true,true,true,true,true,true,true,true]) (fun a=>Fr a 148 [(0,v0),(1,(.int .i64 ae)),(2,(.int .i64 af)),(3,(.int .i64 aP)),(4,(.func (.func 58) #[] #[])),(10,(.bool ah)),(11,(.bool ai)),(12,(.int .i64 (IntKind.i64.wrap (af-ae)))),(13,(.int .i64 bg)),(81,(.int .i64 ae)),(82,(.bool (decide ((0:Int)<ae)))),(83,(.bool (decide ((0:Int)<ae)))),(97,(.bool bV))]) ?_ ?_
         ·intro a f
          refine AI fun bX w bY m=> ?_
          have bU:=Ow.mono (RTg.mono (RI.mono _)) bY bU
          refine Aa ?_
          rcases Ae am with⟨bZ,am⟩|⟨bZ,am⟩
          ·refine Al f Z bZ ?_
           refine Ac ?_
           refine Ab f Z fun a f=>Ab f Z fun a f=>Ab f Z fun a f=>Ab f Z fun a f=>Ab f Z fun a f=> ?_
           obtain⟨b0,b1,am⟩:=bind_some am
           refine AK f Z Tryz.call160 (Wk.k1 m bU b1) fun b2 b3 b4 w b5 m b6 a f=> ?_
           obtain⟨b7,rfl,rfl,b8⟩:=b6
           refine Ad f Z fun a f=>Aa (Ac ?_)
           refine Ab f Z fun a f=>Ad f Z fun a f=>Aa ?_
           refine Ax Z ?_
           obtain rfl:=sj am
           exact⟨_,Z,_,_,_,_,_,_,Z,_,b7,(gt ao (gt a2 (gt a9 (gt bu (gt bz (gt bC (gt bT (gt bY b5)))))))),f.k Z,m,b8⟩
          ·refine Ai f Z bZ ?_
           refine Am ?_
           refine Ac ?_
           refine Ab f Z fun a f=>Ab f Z fun a f=>Ab f Z fun a f=>Ab f Z fun a f=>Ab f Z fun a f=> ?_
           obtain⟨b9,ca,am⟩:=bind_some am
           refine AK f Z Tryz.call161 (Wk.g1 m bU ca) fun cb cc cd w ce m cf a f=> ?_
           obtain⟨cg,rfl,rfl,ch⟩:=cf
           refine Ab f Z fun a f=>l_o f (Bb (f.eval Z) Z) fun a f=>l_o f (Bb (f.eval Z) Z) fun a f=>Ad f Z fun a f=>Ad f Z fun a f=>Aa (Ac ?_)
           refine Ab f Z fun a f=>Ad f Z fun a f=>Aa (Ac ?_)
           refine Ab f Z fun a f=>Ab f Z fun a f=>Ah f Z Z AH fun a f=>Ab f Z fun a f=>Ab f Z fun a f=>Ah f Z Z AH fun a f=>Ad f Z fun a f=>Ad f Z fun a f=>Aa (Ac ?_)
           refine Ab f Z fun a f=>Ah f Z Z (CW Z) fun a f=>Ad f Z fun a f=>Aa (Ac ?_)
           refine Ab f Z fun a f=>Ab f Z fun a f=>Ah f Z Z AJ fun a f=>Aa ?_
           rcases Ae am with⟨ci,am⟩|⟨ci,am⟩
           ·refine Al f Z ci ?_
            refine Ac ?_
            refine Ab f Z fun a f=>Ab f Z fun a f=>Ah f Z Z BM fun a f=>Ad f Z fun a f=>Aa (Ac ?_)
            refine Ab f Z fun a f=>Ab f Z fun a f=>Ab f Z fun a f=>Ab f Z fun a f=>Ab f Z fun a f=> ?_
            obtain⟨cj,ck,am⟩:=bind_some am
            refine AK f Z Tryz.call121 (ih m ch ck) fun cl cm cn w co m cp a f=> ?_
            obtain⟨cq,rfl,cr⟩:=cp
            refine Aa (Ak ?_)
            refine Ab f Z fun a f=>Ah f Z Z Ar fun a f=>Ad f Z fun a f=>Aa ?_
            obtain rfl:=sj am
            exact⟨_,Z,_,_,_,_,_,_,Z,_,cq,(gt ao (gt a2 (gt a9 (gt bu (gt bz (gt bC (gt bT (gt bY (gt ce co))))))))),f.k Z,m,cr⟩
           ·refine Ai f Z ci ?_
            refine Ac ?_
            refine Ab f Z fun a f=>Ab f Z fun a f=>Ah f Z Z BM fun a f=>Ad f Z fun a f=>Aa (Ac ?_)
            refine Ab f Z fun a f=>Ab f Z fun a f=>Ah f Z Z Ar fun a f=>Ab f Z fun a f=>Ab f Z fun a f=>Ab f Z fun a f=> ?_
            obtain⟨cs,ct,am⟩:=bind_some am
            refine AK f Z Tryz.call121 (ih m ch ct) fun cu cv cw w cx m cy a f=> ?_
            obtain⟨cz,rfl,cA⟩:=cy
            refine Aa (Ak ?_)
            refine Ab f Z fun a f=>Ad f Z fun a f=>Aa ?_
            obtain rfl:=sj am
            exact⟨_,Z,_,_,_,_,_,_,Z,_,cz,(gt ao (gt a2 (gt a9 (gt bu (gt bz (gt bC (gt bT (gt bY (gt ce cx))))))))),f.k Z,m,cA⟩
         ·intro cB
          rcases Ae bW with⟨cC,bW⟩|⟨cC,bW⟩
          ·refine Ag (hw:=wo f cC) 3 17 Z f Z fun a f=> ?_
           refine Ag (hw:=wo f cC) 4 17 Z f Z fun a f=>Ag (hw:=wo f cC) 5 17 Z f Z fun a f=>q_p (hw:=wo f cC) 6 17 Z f (fun _=>AD (f.eval Z) (f.eval Z) AH) fun a f=> ?_
           obtain⟨cD,cE,bW⟩:=bind_some bW
           refine Az (hw:=wo f cC) 7 17 0 m bU T22 cE Z f Z Z fun cF a cG f=>AL (hw:=wo f cC) 8 17 0 bU AY cG cE Z f Z fun cH a cI f=>Ag (hw:=wo f cC) 9 17 Z f Z fun a f=>Ag (hw:=wo f cC) 10 17 Z f Z fun a f=> ?_
           obtain⟨cJ,cK,bW⟩:=bind_some bW
           refine Az (hw:=wo f cC) 11 17 0 m bU T22 cK Z f Z Z fun cL a cM f=>AL (hw:=wo f cC) 12 17 0 bU AY cM cK Z f Z fun cN a cO f=> ?_
           obtain⟨cP,cQ,bW⟩:=bind_some bW
           refine Ck (i:=13) 17 Z (by kernel_rfl) Z f (AQ f Z Z Z cC) Z Z Z Tryz.call58 (fun _ _ w cR m=>Wk.a m (rd1 cR (cI.2)) (rd1 cR (cO.2)) cQ) fun a f=>q_p (hw:=wo f cC) 14 17 Z f (fun _=>AD (f.eval Z) (f.eval Z) AJ) fun a f=>q_p (hw:=wo f cC) 15 17 Z f (fun _=>Bd (f.eval Z)) fun a f=>q_p 16 17 Z f (fun _=>AO (f.eval Z) cC (f.eval Z)) fun a f=> ?_
           obtain rfl:=sj bW
           exact cB _ (f.k Z)
          ·refine An 3 17 Z f cC fun a f=> ?_
           refine An 4 17 Z f cC fun a f=>An 5 17 Z f cC fun a f=>An 6 17 Z f cC fun a f=>An 7 17 Z f cC fun a f=>An 8 17 Z f cC fun a f=>An 9 17 Z f cC fun a f=>An 10 17 Z f cC fun a f=>An 11 17 Z f cC fun a f=>An 12 17 Z f cC fun a f=>An 13 17 Z f cC fun a f=>An 14 17 Z f cC fun a f=>An 15 17 Z f cC fun a f=>q_p 16 17 Z f (fun _=>AP (f.eval Z) cC (f.eval Z)) fun a f=> ?_
           obtain rfl:=sj bW
           exact cB _ (f.k Z)
theorem Wk.m {W w:World}{G:GH}{H:List Itm}{v0:Value}{it0:Itm}{x0:(List (Value×List Int))}{x1:Int}{x2:Int}{x3:Int}(m:Mem W G w (it0::H))(o0:Ow (RTg (RI .i64)) 42 G it0 v0 x0){y:((List (Value×List Int)))}(hd:D.m x0 x1 x2 x3=some y):
  Calls Tryz.prog 121 #[v0,(.int .i64 x1),(.int .i64 x2),(.int .i64 x3),(.func (.func 58) #[] #[])] w (Res W G H (fun G' Ho _=>∃i0:Itm,Ho=[i0]∧Ow (RTg (RI .i64)) 42 G' i0 v0 y)):=by
 exact Wk.M CU m o0 hd
theorem Wk.S {W w:World}{G:GH}{H:List Itm}{v0:Value}{it0:Itm}{x0:(List (Value×List Int))}(m:Mem W G w (it0::H))(o0:Ow (RTg (RI .i64)) 42 G it0 v0 x0){y:((List (Value×List Int)))}(hd:D.S x0=some y):
  Calls Tryz.prog 57 #[v0,(.func (.func 58) #[] #[])] w (Res W G H (fun G' Ho _=>∃i0:Itm,Ho=[i0]∧Ow (RTg (RI .i64)) 42 G' i0 v0 y)):=by
 refine As (args:=[v0,(.func (.func 58) #[] #[])]) (N:=14) [] Tryz.func57 Z Z (Nat.le_of_ble_eq_true Z) Z fun a f=> ?_
 unfold D.S at hd
 refine Ac ?_
 refine Ab f Z fun a f=>BB 0 m o0 Z Tryz.underlying22 f Z Z fun a f=>Ad f Z fun a f=>Aa (Ak ?_)
 refine Ab f Z fun a f=>Ab f Z fun a f=>Ab f Z fun a f=>l_o f (CT (f.eval Z) ⟨_,Tryz.underlying3⟩ Tryz.underlying135) fun a f=> ?_
 obtain⟨aa,ab,hd⟩:=bind_some hd
 refine AK f Z Tryz.call122 (Wk.r m ab) fun ac ad ae w af m ag a f=> ?_
 obtain⟨rfl,rfl⟩:=ag
 have o0:=Ow.mono (RTg.mono (RI.mono _)) af o0
 refine Ab f Z fun a f=> ?_
 obtain⟨ah,ai,hd⟩:=bind_some hd
 refine AK f Z Tryz.call121 (Wk.m m o0 ai) fun aj ak al w am m an a f=> ?_
 obtain⟨ao,rfl,ap⟩:=an
 refine Aa ?_
 obtain rfl:=sj hd
 exact⟨[],trivial,f.defers,_,[ao],(gt af am),m,_,Z,ap⟩
theorem Wk.Y0 {W w:World}{G:GH}{H:List Itm}{v0:Value}{v1:Value}{x0:(List Int)}{x1:(List Int)}(hW:CP W)(m:Mem W G w (H))(h0:RSl (RI .u32) G v0 x0)(h1:RSl (RI .i64) G v1 x1){y:((List (List Int)))×((List (List Int)))}(hd:D.Y0 x0 x1=some y):
  Calls Tryz.prog 72 #[v0,v1] w (Res W G H (fun G' Ho v=>∃r0:Value,∃i0:Itm,∃r2:Value,∃i2:Itm,Ho=[i0,i2]∧v=(.agg #[r0,r2])∧Ow2 (RI .i64) 42 2 G' i0 r0 y.1∧Ow2 (RI .i64) 42 2 G' i2 r2 y.2)):=by
 refine As (args:=[v0,v1]) (N:=104) [.cell 4 27] Tryz.func72 Z Z (Nat.le_of_ble_eq_true Z) Z fun a f=> ?_
 unfold D.Y0 at hd
 refine Ac ?_
 refine Bx (cs:=[(.slice none 0 0),(.slice none 0 0)]) Tryz.zeroValue27 m f Z Z fun aa w a m f=>Aa (Ac ?_)
 refine Ab f Z fun a f=>Ab f Z fun a f=> ?_
 obtain⟨ab,ac,hd⟩:=bind_some hd
 refine AK f Z Tryz.call135 (Wk.B hW m h0 h1 ac) fun ad ae af w ag m ah a f=> ?_
 obtain⟨ai,aj,ak,al,rfl,rfl,am,an⟩:=ah
 have h0:=rd1 ag h0
 have h1:=rd1 ag h1
 refine Ab f Z fun a f=>l_o f (Bb (f.eval Z) Z) fun a f=>l_o f (Bb (f.eval Z) Z) fun a f=>Ad f Z fun a f=>Ad f Z fun a f=>Aa (Ac ?_)
 refine Ab f Z fun a f=>AZ Tryz.underlying94 f Z Z h1 fun a f=> ?_
 obtain⟨ao,ap,hd⟩:=bind_some hd
 refine Da (R:=(RI .i64)) m T94 Z (by decide) Z f Z Z Z ap fun aq ar w a m au f=>Ad f Z fun a f=>Aa (Af (Ac ?_))
 refine Ab f Z fun a f=>AZ Tryz.underlying94 f Z Z h1 fun a f=>Ab f Z fun a f=>Aa ?_
 obtain⟨av,aw,hd⟩:=bind_some hd
 refine AC (fun a w=>∃ax:List Int,ax=av∧∃(ay:GH) (az:Itm),GLe ae ay∧Fr a 104 [(1,v1),(4,(.pointer (some ⟨aa,0,none⟩))),(6,ak),(7,ar)]∧Mem W ay w (Itm.box aa 27 [(.slice none 0 0),(.slice none 0 0)]::al::az::H)∧Ow (RI .i64) 3 ay az ar ax) ?_ ?_
 ·refine Aj ?_
  have m:=m.front 2 rfl
  have m:=m.front 3 rfl
  have m:=m.eraseAt 3
  refine AA (fun aA a w=>∃aB:List Int,∃aC:Int,(aB,aC)=aA∧∃(aD:GH) (aE:Itm),GLe ae aD∧Fr a 104 [(1,v1),(4,(.pointer (some ⟨aa,0,none⟩))),(6,ak),(7,ar),(25,v1),(26,(.int .i64 (x1.length:Int))),(27,(.int .i64 aC))]∧Mem W aD w (Itm.box aa 27 [(.slice none 0 0),(.slice none 0 0)]::al::aE::H)∧Ow (RI .i64) 3 aD aE ar aB) aw ⟨_,_,Z,_,aq,gr,f.k Z,m,au⟩ ?_
  clear aw f m
  rintro aA aF aG aH a w ⟨aB,aC,rfl,aD,aE,aI,f,m,aJ⟩
  have h1:=rd1 aI h1
  have an:=od1 aI an
  refine Ac ?_
  refine Ah f Z Z AJ fun a f=>Aa (Af ?_)
  rcases Ae aG with⟨aK,aG⟩|⟨aK,aG⟩
  ·refine Al f Z aK ?_
   refine Am ?_
   refine Af (Aj (Ac ?_))
   refine Ab f Z fun a f=> ?_
   obtain⟨aL,aM,aG⟩:=bind_some aG
   refine Bf T94 f Z Z Z h1 aM fun aN aO a aP aQ f=> ?_
   subst aQ
   refine AG m Pl3 f Z Z aP fun a f=>Ad f Z fun a f=>Ad f Z fun a f=>Aa (Ak ?_)
   refine Ab f Z fun a f=>Ab f Z fun a f=>Ab f Z fun a f=> ?_
   obtain⟨aR,aS,aG⟩:=bind_some aG
   refine AW 2 m aJ Z T94 f Z Z Z aS fun aT a aU f=>Au 2 m aJ Z Tryz.sizeOf3 f Z Z aU aS Z Z Z fun aV w m aW=>Aa (Ak ?_)
   refine Ah f Z Z Ar fun a f=>Ab f Z fun a f=>Aa ?_
   obtain rfl:=sj aG
   exact⟨_,Z,_,_,Z,_,aV,aI,f.k Z,m,aW⟩
  ·refine Ai f Z aK ?_
   refine Ax Z ?_
   obtain rfl:=sj aG
   obtain rfl:=aH _ rfl
   exact⟨_,Z,_,aE,aI,f.k Z,m,aJ⟩
 ·rintro a w ⟨ax,rfl,ay,az,aX,f,m,aY⟩
  have h1:=rd1 aX h1
  have an:=od1 aX an
  refine Ac ?_
  have aZ:∀w,(Instr.build 27 #[]).run Tryz.prog w= .ok (.agg #[(.slice none 0 0),(.slice none 0 0)]) w:=by intro w;simp[Instr.build,Instr.fill,CB,Cq,B8,Cg,BY,CD]
  refine C5 f Z Z aZ fun a f=>Bx (cs:=[(.slice none 0 0),(.slice none 0 0)]) Tryz.zeroValue27 m f Z Z fun a0 w a m f=>AS 0 0 (ds:=[(.slice none 0 0),(.slice none 0 0)]) m Tryz.sizeOf27 f Z Z Z (AN Z (AN Z A3)) Z (Nat.le_of_ble_eq_true Z) Z fun w m=>Aa (Af (Ac ?_))
  refine Ab f Z fun a f=>AZ Tryz.underlying94 f Z Z h1 fun a f=>Ab f Z fun a f=>Aa ?_
  obtain⟨a1,m,a2⟩:=Ow2.nil (RI .i64) 42 2 m
  obtain⟨a3,m,a4⟩:=Ow2.nil (RI .i64) 42 2 m
  obtain⟨a5,a6,hd⟩:=bind_some hd
  refine AC (fun a w=>∃a7:List (List Int),∃a8:List (List Int),(a7,a8)=a5∧∃(a9:GH) (ba:Value) (bb:Itm) (bc:Value) (bd:Itm),GLe ay a9∧Fr a 104 [(4,(.pointer (some ⟨aa,0,none⟩))),(10,(.pointer (some ⟨a0,0,none⟩)))]∧Mem W a9 w (Itm.box aa 27 [(.slice none 0 0),(.slice none 0 0)]::Itm.box a0 27 [ba,bc]::bb::bd::H)∧Ow2 (RI .i64) 42 2 a9 bb ba a7∧Ow2 (RI .i64) 42 2 a9 bd bc a8) ?_ ?_
  ·refine Aj ?_
   have m:=m.front 1 rfl
   have m:=m.front 5 rfl
   have m:Mem W ay w (al::az::a1::a3::Itm.box a0 27 [(.slice none 0 0),(.slice none 0 0)]::Itm.box aa 27 [(.slice none 0 0),(.slice none 0 0)]::H):=m.front 5 rfl
   have m:=m.front 4 rfl
   have m:Mem W ay w (Itm.box aa 27 [(.slice none 0 0),(.slice none 0 0)]::Itm.box a0 27 [(.slice none 0 0),(.slice none 0 0)]::al::az::a1::a3::H):=m.front 5 rfl
   refine AA (fun be a w=>∃bf:Int,∃bg:List (List Int),∃bh:List (List Int),(bf,bg,bh)=be∧∃(bi:GH) (bj:Value) (bk:Itm) (bl:Value) (bm:Itm),GLe ay bi∧Fr a 104 [(1,v1),(4,(.pointer (some ⟨aa,0,none⟩))),(6,ak),(7,ar),(10,(.pointer (some ⟨a0,0,none⟩))),(38,v1),(39,(.int .i64 (x1.length:Int))),(40,(.int .i64 bf))]∧Mem W bi w (Itm.box aa 27 [(.slice none 0 0),(.slice none 0 0)]::Itm.box a0 27 [bj,bl]::al::az::bk::bm::H)∧Ow2 (RI .i64) 42 2 bi bk bj bg∧Ow2 (RI .i64) 42 2 bi bm bl bh) a6 ⟨_,_,_,Z,_,(.slice none 0 0),a1,(.slice none 0 0),a3,gr,f.k Z,m,a2,a4⟩ ?_
   clear a6 f m
   rintro be bn bo bp a w ⟨bf,bg,bh,rfl,bi,bj,bk,bl,bm,bq,f,m,br,bs⟩
   have h1:=rd1 bq h1
   have an:=od1 bq an
   have aY:=od1 bq aY
   refine Ac ?_
   refine Ah f Z Z AJ fun a f=>Aa (Af ?_)
   rcases Ae bo with⟨bt,bo⟩|⟨bt,bo⟩
   ·refine Al f Z bt ?_
    refine Am ?_
    refine Af (Aj (Ac ?_))
    refine Ab f Z fun a f=> ?_
    obtain⟨bu,bv,bo⟩:=bind_some bo
    refine Bf T94 f Z Z Z h1 bv fun bw bx a bz bA f=> ?_
    subst bA
    refine AG m Pl3 f Z Z bz fun a f=>Ad f Z fun a f=>Ad f Z fun a f=>Aa (Af ?_)
    refine AT 11 Aw (by kernel_rfl) m ?_
    refine B3 0 11 Tryz.underlying27 Z Tryz.sizeOf22 Z f Z fun a f=>BO 1 11 1 Ba Z Z Z f Z fun a f=>Ag 2 11 Z f Z fun a f=>Ag 3 11 Z f Z fun a f=> ?_
    obtain⟨bB,bC,bo⟩:=bind_some bo
    refine Az 4 11 2 m an T73 bC Z f Z Z fun bD a bE f=>AL 5 11 2 an Cw bE bC Z f Z fun bF a bG f=> ?_
    subst bG
    refine Ag 6 11 Z f Z fun a f=> ?_
    obtain⟨bH,bI,bo⟩:=bind_some bo
    refine Bh (i:=7) 11 Z (by kernel_rfl) Z f Z Z Z Tryz.call100 (fun _ _ w bJ m=>Wk.c m bI) fun a f=>q_p 8 11 Z f (fun _=>AD (f.eval Z) (f.eval Z) b_or) fun a f=>BD (i:=9) Z (by kernel_rfl) Z fun bK w bL m bM bM=> ?_
    have h1:=rd1 bL h1
    have an:=od1 bL an
    have aY:=od1 bL aY
    have br:=od2 bL br
    have bs:=od2 bL bs
    obtain⟨bN,bO,bo⟩:=bind_some bo
    refine AK f Z Tryz.call124 (Wk.H hW m bO) fun bP bQ bR w bS m bT a f=> ?_
    obtain⟨bU,bV,rfl,rfl,bW⟩:=bT
    have h1:=rd1 bS h1
    have an:=od1 bS an
    have aY:=od1 bS aY
    have br:=od2 bS br
    have bs:=od2 bS bs
    refine Aa ?_
    refine bM bQ [bV] _ _ bS m ?_
    refine BD (i:=10) Z (by kernel_rfl) Z fun bX w bY m bZ bZ=> ?_
    have h1:=rd1 bY h1
    have bW:=od1 bY bW
    have an:=od1 bY an
    have aY:=od1 bY aY
    have br:=od2 bY br
    have bs:=od2 bY bs
    refine A8 (R:=RawS) (xs:=[bU]) RawS.one m T22 f Z Z Z (by decide) (All2.cons ⟨Z,Ow.one1 0 m bW Z,Ow.cells 0 m bW Z⟩ (All2.nil _)) fun b0 b1 w a m b2 f=>Aa ?_
    refine bZ bX [b0,bV] _ _ gr m ?_
    refine AI fun b3 w b4 m=> ?_
    have h1:=rd1 b4 h1
    have b2:=Ow.mono RawS.mono b4 b2
    have bW:=od1 b4 bW
    have an:=od1 b4 an
    have aY:=od1 b4 aY
    have br:=od2 b4 br
    have bs:=od2 b4 bs
    have m:=m.front 1 rfl
    have m:Mem W b3 w (bk::bV::b0::Itm.box aa 27 [(.slice none 0 0),(.slice none 0 0)]::Itm.box a0 27 [bj,bl]::al::az::bm::H):=m.front 6 rfl
    obtain⟨b5,b6,bo⟩:=bind_some bo
    refine El m br bW b2 T22 Z (by decide) f Z Z Z b6 fun b7 b8 w a m b9 f=>Bn Tryz.underlying27 Z Tryz.sizeOf22 f Z fun a f=>AS 2 0 (ds:=[b8]) m Tryz.sizeOf22 f Z Z (Ow2.cells 0 m b9 Z) (AN (Ow2.one1 0 m b9 Z) A3) Z (Nat.le_of_ble_eq_true Z) Z fun w m=>Aa (Af (Ac ?_))
    refine Ab f Z fun a f=>Ab f Z fun a f=>AZ Tryz.underlying94 f Z Z h1 fun a f=>Ah f Z Z AH fun a f=>Ah f Z Z By fun a f=>Aa ?_
    rcases Ae bo with⟨ca,bo⟩|⟨ca,bo⟩
    ·refine Al f Z ca ?_
     refine Ax Z ?_
     have m:=m.front 5 rfl
     have m:=m.front 1 rfl
     have m:Mem W b3 w (Itm.box a0 27 [b8,bl]::b7::bm::Itm.box aa 27 [(.slice none 0 0),(.slice none 0 0)]::al::az::H):=m.front 3 rfl
     have m:=m.front 3 rfl
     have m:=m.eraseAt 5
     have m:Mem W b3 w (Itm.box aa 27 [(.slice none 0 0),(.slice none 0 0)]::Itm.box a0 27 [b8,bl]::b7::bm::H):=m.eraseAt 4
     obtain rfl:=sj bo
     obtain rfl:=bp _ rfl
     exact⟨_,_,Z,_,b8,b7,bl,bm,(gt bq (gt bL (gt bS (gt bY b4)))),f.k Z,m,b9,bs⟩
    ·refine Ai f Z ca ?_
     refine Am ?_
     refine Ac ?_
     refine Ab f Z fun a f=>Ah f Z Z Ar fun a f=>Ad f Z fun a f=>Aa (Af (Ac ?_))
     refine Ab f Z fun a f=>Ab f Z fun a f=> ?_
     obtain⟨cb,cc,bo⟩:=bind_some bo
     refine AW 3 m an Z T73 f Z Z Z cc fun cd a ce f=>BL 3 m an Z Cw f Z Z ce cc fun cf a cg f=> ?_
     subst cg
     obtain⟨ch,ci,bo⟩:=bind_some bo
     refine AK f Z Tryz.call103 (Wk.i hW m ci) fun cj ck cl w cm m cn a f=> ?_
     obtain⟨co,cp,rfl,rfl,cq⟩:=cn
     have h1:=rd1 cm h1
     have b9:=od2 cm b9
     have an:=od1 cm an
     have aY:=od1 cm aY
     have bs:=od2 cm bs
     refine BB 0 m cq Z Tryz.underlying94 f Z Z fun a f=>Ab f Z fun a f=>Aa ?_
     obtain⟨cr,ct,bo⟩:=bind_some bo
     refine AC (fun a w=>∃cu:Int,cu=cr∧∃(cv:GH),GLe ck cv∧Fr a 104 [(1,v1),(4,(.pointer (some ⟨aa,0,none⟩))),(6,ak),(7,ar),(10,(.pointer (some ⟨a0,0,none⟩))),(11,(.int .i64 bf)),(13,(.int .i64 cu)),(38,v1),(39,(.int .i64 (x1.length:Int))),(40,(.int .i64 bf))]∧Mem W cv w (Itm.box aa 27 [(.slice none 0 0),(.slice none 0 0)]::Itm.box a0 27 [b8,bl]::al::az::b7::bm::H)) ?_ ?_
     ·refine Aj ?_
      have m:=m.front 5 rfl
      have m:=m.front 5 rfl
      have m:Mem W ck w (Itm.box a0 27 [b8,bl]::al::az::cp::b7::Itm.box aa 27 [(.slice none 0 0),(.slice none 0 0)]::bm::H):=m.front 5 rfl
      have m:Mem W ck w (Itm.box aa 27 [(.slice none 0 0),(.slice none 0 0)]::Itm.box a0 27 [b8,bl]::al::az::cp::b7::bm::H):=m.front 5 rfl
      refine AA (fun cw a w=>∃cx:Int,∃cy:Int,(cx,cy)=cw∧∃(cz:GH),GLe ck cz∧Fr a 104 [(1,v1),(4,(.pointer (some ⟨aa,0,none⟩))),(6,ak),(7,ar),(10,(.pointer (some ⟨a0,0,none⟩))),(11,(.int .i64 bf)),(13,(.int .i64 cx)),(38,v1),(39,(.int .i64 (x1.length:Int))),(40,(.int .i64 bf)),(69,co),(70,(.int .i64 (ch.length:Int))),(71,(.int .i64 cy))]∧Mem W cz w (Itm.box aa 27 [(.slice none 0 0),(.slice none 0 0)]::Itm.box a0 27 [b8,bl]::al::az::cp::b7::bm::H)) ct ⟨_,_,Z,_,gr,f.k Z,m⟩ ?_
      clear ct f m
      rintro cw cA cB cC a w ⟨cx,cy,rfl,cz,cD,f,m⟩
      have h1:=rd1 cD h1
      have an:=od1 cD an
      have aY:=od1 cD aY
      have cq:=od1 cD cq
      have b9:=od2 cD b9
      have bs:=od2 cD bs
      refine Ac ?_
      refine Ah f Z Z AJ fun a f=>Aa (Af ?_)
      rcases Ae cB with⟨cE,cB⟩|⟨cE,cB⟩
      ·refine Al f Z cE ?_
       refine Am ?_
       refine Af (Aj (Ac ?_))
       refine Ab f Z fun a f=> ?_
       obtain⟨cF,cG,cB⟩:=bind_some cB
       refine AW 4 m cq Z T94 f Z Z Z cG fun cH a cI f=>BL 4 m cq Z Pl3 f Z Z cI cG fun cJ a cK f=> ?_
       subst cK
       refine Ad f Z fun a f=>Ad f Z fun a f=>Aa (Ac ?_)
       refine Ab f Z fun a f=>Ah f Z Z By fun a f=>Ab f Z fun a f=> ?_
       obtain⟨cL,cM,cB⟩:=bind_some cB
       refine Bz 7 (fun a w=>∃cN,GLe cz cN∧Mem W cN w (Itm.box aa 27 [(.slice none 0 0),(.slice none 0 0)]::Itm.box a0 27 [b8,bl]::al::az::cp::b7::bm::H)∧Fr a 104 [(1,v1),(4,(.pointer (some ⟨aa,0,none⟩))),(6,ak),(7,ar),(10,(.pointer (some ⟨a0,0,none⟩))),(11,(.int .i64 bf)),(13,(.int .i64 cx)),(14,(.int .i64 cy)),(15,(.int .i64 cF)),(38,v1),(39,(.int .i64 (x1.length:Int))),(40,(.int .i64 bf)),(69,co),(70,(.int .i64 (ch.length:Int))),(71,(.int .i64 cy)),(76,(.int .i64 cy)),(77,(.bool (cy==0))),(78,(.bool (cy==0))),(85,(.bool cL))]) ?_ ?_
       ·rcases Ae cM with⟨cO,cM⟩|⟨cO,cM⟩
        ·refine AE f cO fun a f=> ?_
         refine AE f cO fun a f=>AE f cO fun a f=>AE f cO fun a f=>AE f cO fun a f=>AE f cO fun a f=>l_o f (AO (f.eval Z) cO (f.eval Z)) fun a f=> ?_
         obtain rfl:=sj cM
         exact⟨_,gr,m,f.k Z⟩
        ·refine AB f cO ?_
         refine Ab f Z fun a f=>AB f cO ?_
         refine Ab f Z fun a f=>AB f cO ?_
         obtain⟨cP,cQ,cM⟩:=bind_some cM
         refine AW 3 m aY Z T94 f Z Z Z cQ fun cR a cS f=>AB f cO ?_
         refine BL 3 m aY Z Pl3 f Z Z cS cQ fun cT a cU f=> ?_
         subst cU
         refine AB f cO ?_
         refine Ab f Z fun a f=>AB f cO ?_
         refine Ah f Z Z AJ fun a f=>l_o f (AP (f.eval Z) cO (f.eval Z)) fun a f=> ?_
         obtain rfl:=sj cM
         exact⟨_,gr,m,f.k Z⟩
       ·rintro a w ⟨cN,cV,m,f⟩
        have h1:=rd1 cV h1
        have an:=od1 cV an
        have aY:=od1 cV aY
        have cq:=od1 cV cq
        have b9:=od2 cV b9
        have bs:=od2 cV bs
        refine Aa ?_
        rcases Ae cB with⟨cW,cB⟩|⟨cW,cB⟩
        ·refine Al f Z cW ?_
         refine Ak ?_
         refine Ab f Z fun a f=>Ab f Z fun a f=> ?_
         obtain⟨cX,cY,cB⟩:=bind_some cB
         refine AW 3 m aY Z T94 f Z Z Z cY fun cZ a c0 f=>BL 3 m aY Z Pl3 f Z Z c0 cY fun c1 a c2 f=> ?_
         subst c2
         refine Ad f Z fun a f=>Aa (Ak ?_)
         refine Ah f Z Z Ar fun a f=>Ab f Z fun a f=>Aa ?_
         obtain rfl:=sj cB
         exact⟨_,Z,_,_,Z,_,(gt cD cV),f.k Z,m⟩
        ·refine Ai f Z cW ?_
         refine Am ?_
         refine Ak ?_
         refine Ah f Z Z Ar fun a f=>Ab f Z fun a f=>Aa ?_
         obtain rfl:=sj cB
         exact⟨_,Z,_,_,Z,_,(gt cD cV),f.k Z,m⟩
      ·refine Ai f Z cE ?_
       refine Ax Z ?_
       have m:=m.front 6 rfl
       have m:=m.front 6 rfl
       have m:Mem W cz w (az::b7::bm::Itm.box aa 27 [(.slice none 0 0),(.slice none 0 0)]::Itm.box a0 27 [b8,bl]::al::cp::H):=m.front 5 rfl
       have m:=m.front 5 rfl
       have m:=m.front 5 rfl
       have m:Mem W cz w (Itm.box aa 27 [(.slice none 0 0),(.slice none 0 0)]::Itm.box a0 27 [b8,bl]::al::az::b7::bm::cp::H):=m.front 5 rfl
       have m:Mem W cz w (Itm.box aa 27 [(.slice none 0 0),(.slice none 0 0)]::Itm.box a0 27 [b8,bl]::al::az::b7::bm::H):=m.eraseAt 6
       obtain rfl:=sj cB
       obtain rfl:=cC _ rfl
       exact⟨_,Z,_,cD,f.k Z,m⟩
     ·rintro a w ⟨cu,rfl,cv,c3,f,m⟩
      have h1:=rd1 c3 h1
      have an:=od1 c3 an
      have aY:=od1 c3 aY
      have b9:=od2 c3 b9
      have bs:=od2 c3 bs
      refine AT 6 Aw (by kernel_rfl) m ?_
      refine B3 0 6 Tryz.underlying27 Z Tryz.sizeOf22 Z f Z fun a f=>BO 1 6 1 Ba Z Z Z f Z fun a f=>Ag 2 6 Z f Z fun a f=>Ag 3 6 Z f Z fun a f=>BD (i:=4) Z (by kernel_rfl) Z fun c4 w c5 m c6 c6=> ?_
      have h1:=rd1 c5 h1
      have an:=od1 c5 an
      have aY:=od1 c5 aY
      have b9:=od2 c5 b9
      have bs:=od2 c5 bs
      obtain⟨c7,c8,bo⟩:=bind_some bo
      refine AK f Z Tryz.call56 (Wk.R m c8) fun c9 da db w dc m dd a f=> ?_
      obtain⟨de,df,rfl,rfl,dg⟩:=dd
      have h1:=rd1 dc h1
      have an:=od1 dc an
      have aY:=od1 dc aY
      have b9:=od2 dc b9
      have bs:=od2 dc bs
      refine Aa ?_
      refine c6 da [df] _ _ dc m ?_
      refine BD (i:=5) Z (by kernel_rfl) Z fun dh w di m dj dj=> ?_
      have h1:=rd1 di h1
      have dg:=od1 di dg
      have an:=od1 di an
      have aY:=od1 di aY
      have b9:=od2 di b9
      have bs:=od2 di bs
      refine A8 (R:=RawS) (xs:=[de]) RawS.one m T22 f Z Z Z (by decide) (All2.cons ⟨Z,Ow.one1 0 m dg Z,Ow.cells 0 m dg Z⟩ (All2.nil _)) fun dk dl w a m dm f=>Aa ?_
      refine dj dh [dk,df] _ _ gr m ?_
      refine AI fun dn w dp m=> ?_
      have h1:=rd1 dp h1
      have dm:=Ow.mono RawS.mono dp dm
      have dg:=od1 dp dg
      have an:=od1 dp an
      have aY:=od1 dp aY
      have b9:=od2 dp b9
      have bs:=od2 dp bs
      have m:=m.front 1 rfl
      have m:Mem W dn w (bm::df::dk::Itm.box aa 27 [(.slice none 0 0),(.slice none 0 0)]::Itm.box a0 27 [b8,bl]::al::az::b7::H):=m.front 7 rfl
      obtain⟨dq,dr,bo⟩:=bind_some bo
      refine El m bs dg dm T22 Z (by decide) f Z Z Z dr fun dt du w a m dv f=>Bn Tryz.underlying27 Z Tryz.sizeOf22 f Z fun a f=>AS 2 1 (ds:=[du]) m Tryz.sizeOf22 f Z Z (Ow2.cells 0 m dv Z) (AN (Ow2.one1 0 m dv Z) A3) Z (Nat.le_of_ble_eq_true Z) Z fun w m=>Aa (Ak ?_)
      refine Ah f Z Z Ar fun a f=>Ab f Z fun a f=>Aa ?_
      have m:=m.front 5 rfl
      have m:=m.front 5 rfl
      have m:Mem W dn w (al::az::b7::dt::Itm.box aa 27 [(.slice none 0 0),(.slice none 0 0)]::Itm.box a0 27 [b8,du]::H):=m.front 5 rfl
      have m:=m.front 5 rfl
      have m:Mem W dn w (Itm.box aa 27 [(.slice none 0 0),(.slice none 0 0)]::Itm.box a0 27 [b8,du]::al::az::b7::dt::H):=m.front 5 rfl
      obtain rfl:=sj bo
      exact⟨_,Z,_,_,_,Z,_,b8,b7,du,dt,(gt bq (gt bL (gt bS (gt bY (gt b4 (gt cm (gt c3 (gt c5 (gt dc (gt di dp)))))))))),f.k Z,m,b9,dv⟩
   ·refine Ai f Z bt ?_
    refine Ax Z ?_
    have m:=m.front 5 rfl
    have m:=m.front 5 rfl
    have m:Mem W bi w (Itm.box a0 27 [bj,bl]::bk::bm::Itm.box aa 27 [(.slice none 0 0),(.slice none 0 0)]::al::az::H):=m.front 3 rfl
    have m:=m.front 3 rfl
    have m:=m.eraseAt 5
    have m:Mem W bi w (Itm.box aa 27 [(.slice none 0 0),(.slice none 0 0)]::Itm.box a0 27 [bj,bl]::bk::bm::H):=m.eraseAt 4
    obtain rfl:=sj bo
    obtain rfl:=bp _ rfl
    exact⟨_,_,Z,_,bj,bk,bl,bm,bq,f.k Z,m,br,bs⟩
  ·rintro a w ⟨a7,a8,rfl,a9,ba,bb,bc,bd,dw,f,m,dx,dy⟩
   refine Ac ?_
   refine Bn Tryz.underlying27 Z Tryz.sizeOf22 f Z fun a f=>AF 1 1 m Ba f Z Z Z Z fun a f=> ?_
   have m:Mem W a9 w (bd::Itm.box aa 27 [(.slice none 0 0),(.slice none 0 0)]::Itm.box a0 27 [ba,bc]::bb::H):=m.front 3 rfl
   obtain⟨dz,dA,hd⟩:=bind_some hd
   refine AK f Z Tryz.call57 (Ow2.sortCall (RI.free _) dy m (fun Z hZ=>(Bm dA hZ).imp (fun zs h=>⟨h.2.1,h.2.2,fun _ _ m o=>Wk.S m o h.1⟩))) fun dB dC dD w dE m dF a f=> ?_
   obtain⟨dG,rfl,dH⟩:=dF
   have dx:=od2 dE dx
   refine Aa (Ac ?_)
   refine A5 2 0 (ds:=[ba,bc]) m B5 f Z Z Z Z Z fun a f=>AS 1 0 (ds:=[ba,bc]) m Tryz.sizeOf27 f Z Z Z (AN (Ow2.one1 3 m dx Z) (AN (Ow2.one1 0 m dH Z) A3)) Z (Nat.le_of_ble_eq_true Z) Z fun w m=>Aa ?_
   refine Aq ?_
   have dI:=Cu (P:=Tryz.prog) 1 m B5 f (s:=4) rfl rfl rfl
   have m:=m.front 3 rfl
   have m:=m.eraseAt 3
   have m:=m.eraseAt 2
   obtain rfl:=sj hd
   exact⟨[(.agg #[ba,bc])],⟨dI,trivial⟩,f.defers,_,[bb,dG],(gt ag (gt aX (gt dw dE))),m,_,_,_,_,Z,Z,dx,dH⟩
theorem Wk.F0 {W w:World}{G:GH}{H:List Itm}{v0_0:Value}{v1:Value}{x0_0:(List (List Int))}{x1:(List Int)}(hW:CP W)(m:Mem W G w (H))(h0_0:RSl (RSl (RI .i64)) G v0_0 x0_0)(h1:RSl (RI .i64) G v1 x1){y:((List (List Int)))×((List (List Int)))×Bool}(hd:D.F0 x0_0 x1=some y):
  Calls Tryz.prog 23 #[(.agg #[v0_0]),v1] w (Res W G H (fun G' Ho v=>∃r0:Value,∃i0:Itm,∃r2:Value,∃i2:Itm,Ho=[i0,i2]∧v= .tuple #[(.agg #[r0,r2]),(.bool y.2.2)]∧Ow2 (RI .i64) 42 2 G' i0 r0 y.1∧Ow2 (RI .i64) 42 2 G' i2 r2 y.2.1)):=by
 refine As (args:=[(.agg #[v0_0]),v1]) (N:=16) [.cell 4 27,.tmp 5] Tryz.func23 Z Z (Nat.le_of_ble_eq_true Z) Z fun a f=> ?_
 unfold D.F0 at hd
 refine Ac ?_
 refine Bw (cs:=[v0_0]) m f Z Z Z fun aa w a m f=>Bx (cs:=[(.slice none 0 0),(.slice none 0 0)]) Tryz.zeroValue27 m f Z Z fun ab w a m f=>Ad f Z fun a f=>Aa (Af (Ac ?_))
 refine A5 1 0 (ds:=[v0_0]) m Bq f Z Z Z Z Z fun a f=>Ab f Z fun a f=> ?_
 obtain⟨ac,ad,hd⟩:=bind_some hd
 refine Bi f Z Tryz.call71 (Wk.X m h0_0 h1 ad) fun ae w af m a f=> ?_
 have h0_0:=rd2 af h0_0
 have h1:=rd1 af h1
 refine l_o f (Bd (f.eval Z)) fun a f=>Aa ?_
 rcases Ae hd with⟨ag,hd⟩|⟨ag,hd⟩
 ·refine Al f Z ag ?_
  refine Ac ?_
  have ah:∀w,(Instr.build 27 #[]).run Tryz.prog w= .ok (.agg #[(.slice none 0 0),(.slice none 0 0)]) w:=by intro w;simp[Instr.build,Instr.fill,CB,Cq,B8,Cg,BY,CD]
  refine C5 f Z Z ah fun a f=>AS 0 0 (ds:=[(.slice none 0 0),(.slice none 0 0)]) m Tryz.sizeOf27 f Z Z Z (AN Z (AN Z A3)) Z (Nat.le_of_ble_eq_true Z) Z fun w m=>Ad f Z fun a f=>Aa ?_
  refine Aq ?_
  obtain⟨ai,m,aj⟩:=Ow2.nil (RI .i64) 42 2 m
  obtain⟨ak,m,al⟩:=Ow2.nil (RI .i64) 42 2 m
  have am:=Cu (P:=Tryz.prog) 2 m B5 f (s:=4) rfl rfl rfl
  have m:=m.front 1 rfl
  have m:=m.eraseAt 3
  have m:=m.eraseAt 2
  obtain rfl:=sj hd
  exact⟨[(.agg #[(.slice none 0 0),(.slice none 0 0)]),(.bool false)],⟨am,f.get _ _ Z,trivial⟩,f.defers,_,[ai,ak],af,m,_,_,_,_,Z,Z,aj,al⟩
 ·refine Ai f Z ag ?_
  refine Am ?_
  refine Ac ?_
  refine A5 1 0 (ds:=[v0_0]) m Bq f Z Z Z Z Z fun a f=> ?_
  obtain⟨an,ao,hd⟩:=bind_some hd
  refine AK f Z Tryz.call50 (Wk.v m h0_0 ao) fun ap aq ar w au m av a f=> ?_
  obtain⟨aw,ax,rfl,rfl,ay⟩:=av
  have h0_0:=rd2 au h0_0
  have h1:=rd1 au h1
  refine Ab f Z fun a f=> ?_
  obtain⟨az,aA,hd⟩:=bind_some hd
  refine AK f Z Tryz.call73 (Wk.g0 m h1 aA) fun aB aC aD w aE m aF a f=> ?_
  obtain⟨aG,aH,rfl,rfl,aI⟩:=aF
  have h0_0:=rd2 aE h0_0
  have h1:=rd1 aE h1
  have ay:=od1 aE ay
  obtain⟨aJ,aK,hd⟩:=bind_some hd
  refine AK f Z Tryz.call72 (Ow.lendCall (RI.mono _) 1 ay m Z (fun aL aM m aN=>(Ow.lendCall (RI.mono _) 0 (od1 aM aI) m Z (fun aO aP m aQ=>Wk.Y0 hW m (rd1 aP aN) aQ aK) (fun _ G' _ _ ⟨a0,a1,a2,a3,e1,e2,o0,o1⟩=>⟨a0,a1,a2,a3,e1,e2,Ow2.free (RI.free _) G' o0,Ow2.free (RI.free _) G' o1⟩))) (fun _ G' _ _ ⟨a0,a1,a2,a3,e1,e2,o0,o1⟩=>⟨a0,a1,a2,a3,e1,e2,Ow2.free (RI.free _) G' o0,Ow2.free (RI.free _) G' o1⟩)) fun aR aS aT w aU m aV a f=> ?_
  obtain⟨aW,aX,aY,aZ,rfl,rfl,a4,a5⟩:=aV
  have h0_0:=rd2 aU h0_0
  have h1:=rd1 aU h1
  have aI:=od1 aU aI
  have ay:=od1 aU ay
  refine AS 4 0 (ds:=[aW,aY]) m Tryz.sizeOf27 f Z Z Z (AN (Ow2.one1 0 m a4 Z) (AN (Ow2.one1 1 m a5 Z) A3)) Z (Nat.le_of_ble_eq_true Z) Z fun w m=>Ad f Z fun a f=>Aa ?_
  refine Aq ?_
  have a6:=Cu (P:=Tryz.prog) 4 m B5 f (s:=4) rfl rfl rfl
  have m:=m.eraseAt 5
  have m:=m.eraseAt 4
  have m:Mem W aS w (aX::aZ::aH::H):=m.eraseAt 3
  have m:=m.eraseAt 2
  obtain rfl:=sj hd
  exact⟨[(.agg #[aW,aY]),(.bool true)],⟨a6,f.get _ _ Z,trivial⟩,f.defers,_,[aX,aZ],(gt af (gt au (gt aE aU))),m,_,_,_,_,Z,Z,a4,a5⟩
theorem Wk.d {W w:World}{G:GH}{H:List Itm}{v0_0:Value}{x0_0:(List (List Int))}(m:Mem W G w (H))(h0_0:RSl (RSl (RI .i64)) G v0_0 x0_0){y:Int}(hd:D.d x0_0=some y):
  Calls Tryz.prog 80 #[(.agg #[v0_0])] w (Res W G H (fun _ Ho v=>Ho=[]∧v=(.int .i64 y))):=by
 refine As (args:=[(.agg #[v0_0])]) (N:=6) [.tmp 2] Tryz.func80 Z Z (Nat.le_of_ble_eq_true Z) Z fun a f=> ?_
 unfold D.d at hd
 refine Ac ?_
 refine Bw (cs:=[v0_0]) m f Z Z Z fun aa w a m f=>Ad f Z fun a f=>Aa (Ac ?_)
 refine Bn Tryz.underlying30 Z Tryz.sizeOf22 f Z fun a f=>AF 0 0 m Ba f Z Z Z Z fun a f=>AZ Tryz.underlying22 f Z Z h0_0 fun a f=>Ad f Z fun a f=>Aa ?_
 refine Aq ?_
 have m:Mem W G w H:=Mem.drop (H':=[Itm.box aa 30 [v0_0]]) m
 obtain rfl:=sj hd
 exact⟨[(.int .i64 (x0_0.length:Int))],⟨f.get _ _ Z,trivial⟩,f.defers,_,[],gr,m,Z,Z⟩
theorem Wk.h {W w:World}{G:GH}{H:List Itm}{v0:Value}{x0:(List Int)}{x1:Int}(m:Mem W G w (H))(h0:RSl (RI .i64) G v0 x0){y:Bool}(hd:D.h x0 x1=some y):
  Calls Tryz.prog 70 #[v0,(.int .i64 x1)] w (Res W G H (fun _ Ho v=>Ho=[]∧v=(.bool y))):=by
 refine As (args:=[v0,(.int .i64 x1)]) (N:=18) [.tmp 4] Tryz.func70 Z Z (Nat.le_of_ble_eq_true Z) Z fun a f=> ?_
 unfold D.h at hd
 refine Ac ?_
 refine Ad f Z fun a f=>Aa (Af (Ac ?_))
 refine Ad f Z fun a f=>Aa ?_
 obtain⟨aa,ab,hd⟩:=bind_some hd
 refine AC (fun a w=>∃q_19':Unit,aa= .inl q_19'∧∃(ac:GH),GLe G ac∧Fr a 18 []∧Mem W ac w (H)) ?_ ?_
 ·refine Aj ?_
  refine AA (fun ad a w=>∃ae:Int,ae=ad∧∃(af:GH),GLe G af∧Fr a 18 [(0,v0),(1,(.int .i64 x1)),(5,(.int .i64 ae))]∧Mem W af w (H)) ab ⟨_,Z,_,gr,f.k Z,m⟩ ?_
  clear ab f m
  rintro ad ag ah ai a w ⟨ae,rfl,af,aj,f,m⟩
  have h0:=rd1 aj h0
  refine Af (Ac ?_)
  refine Ab f Z fun a f=>Ab f Z fun a f=>AZ Tryz.underlying42 f Z Z h0 fun a f=>Ah f Z Z AJ fun a f=>Aa ?_
  rcases Ae ah with⟨ak,ah⟩|⟨ak,ah⟩
  ·refine Al f Z ak ?_
   refine Am ?_
   refine Af (Aj (Ac ?_))
   refine Ab f Z fun a f=>Ab f Z fun a f=> ?_
   obtain⟨al,am,ah⟩:=bind_some ah
   refine Bf T42 f Z Z Z h0 am fun an ao a ap aq f=> ?_
   subst aq
   refine AG m Pl2 f Z Z ap fun a f=>Ab f Z fun a f=>Ah f Z Z By fun a f=>Aa ?_
   rcases Ae ah with⟨ar,ah⟩|⟨ar,ah⟩
   ·refine Al f Z ar ?_
    refine Ac ?_
    refine Ad f Z fun a f=>Aa ?_
    refine Aq ?_
    obtain rfl:=sj ah
    obtain rfl:=ai _ rfl
    obtain rfl:=sj hd
    exact⟨[(.bool true)],⟨f.get _ _ Z,trivial⟩,f.defers,_,[],aj,m,Z,Z⟩
   ·refine Ai f Z ar ?_
    refine Am ?_
    refine Ak ?_
    refine Ab f Z fun a f=>Ah f Z Z Ar fun a f=>Ad f Z fun a f=>Aa ?_
    obtain rfl:=sj ah
    exact⟨_,Z,_,Z,_,aj,f.k Z,m⟩
  ·refine Ai f Z ak ?_
   refine Ax Z ?_
   obtain rfl:=sj ah
   obtain rfl:=ai _ rfl
   exact⟨_,Z,_,aj,f.weak trivial,m⟩
 ·rintro a w ⟨_,rfl,ac,au,f,m⟩
  refine Ac ?_
  refine Ad f Z fun a f=>Aa ?_
  refine Aq ?_
  obtain rfl:=sj hd
  exact⟨[(.bool false)],⟨f.get _ _ Z,trivial⟩,f.defers,_,[],au,m,Z,Z⟩
theorem Wk.W {W w:World}{G:GH}{H:List Itm}{v0_0:Value}{x0_0:(List (List Int))}(m:Mem W G w (H))(h0_0:RSl (RSl (RI .i64)) G v0_0 x0_0){y:Bool}(hd:D.W x0_0=some y):
  Calls Tryz.prog 77 #[(.agg #[v0_0])] w (Res W G H (fun _ Ho v=>Ho=[]∧v=(.bool y))):=by
 refine As (args:=[(.agg #[v0_0])]) (N:=64) [.tmp 2] Tryz.func77 Z Z (Nat.le_of_ble_eq_true Z) Z fun a f=> ?_
 unfold D.W at hd
 refine Ac ?_
 refine Bw (cs:=[v0_0]) m f Z Z Z fun aa w a m f=>Ad f Z fun a f=>Aa (Ac ?_)
 refine A5 0 0 (ds:=[v0_0]) m Bq f Z Z Z Z Z fun a f=> ?_
 obtain⟨ab,ac,hd⟩:=bind_some hd
 refine Bi f Z Tryz.call80 (Wk.d m h0_0 ac) fun ad w ae m a f=> ?_
 have h0_0:=rd2 ae h0_0
 refine Ad f Z fun a f=>Aa (Af (Ac ?_))
 refine Ab f Z fun a f=> ?_
 obtain⟨af,ag,hd⟩:=bind_some hd
 refine Bi f Z Tryz.call141 (Wk.e m ag) fun ah w ai m a f=> ?_
 have h0_0:=rd2 ai h0_0
 refine l_o f (Bd (f.eval Z)) fun a f=>Aa ?_
 rcases Ae hd with⟨aj,hd⟩|⟨aj,hd⟩
 ·refine Al f Z aj ?_
  refine Ac ?_
  refine Ad f Z fun a f=>Aa ?_
  refine Aq ?_
  have m:Mem W ah w H:=Mem.drop (H':=[Itm.box aa 30 [v0_0]]) m
  obtain rfl:=sj hd
  exact⟨[(.bool false)],⟨f.get _ _ Z,trivial⟩,f.defers,_,[],(gt ae ai),m,Z,Z⟩
 ·refine Ai f Z aj ?_
  refine Am ?_
  refine Af (Ac ?_)
  refine Ad f Z fun a f=>Aa ?_
  obtain⟨ak,al,hd⟩:=bind_some hd
  refine AC (fun a w=>∃q_138':Unit,ak= .inl q_138'∧∃(am:GH),GLe ah am∧Fr a 64 [(1,(.pointer (some ⟨aa,0,none⟩))),(3,(.int .i64 ab))]∧Mem W am w (Itm.box aa 30 [v0_0]::H)) ?_ ?_
  ·refine Aj ?_
   refine AA (fun an a w=>∃ao:Int,ao=an∧∃(ap:GH),GLe ah ap∧Fr a 64 [(1,(.pointer (some ⟨aa,0,none⟩))),(3,(.int .i64 ab)),(4,(.int .i64 ao))]∧Mem W ap w (Itm.box aa 30 [v0_0]::H)) al ⟨_,Z,_,gr,f.k Z,m⟩ ?_
   clear al f m
   rintro an aq ar au a w ⟨ao,rfl,ap,av,f,m⟩
   have h0_0:=rd2 av h0_0
   refine Af (Ac ?_)
   refine Ab f Z fun a f=>Ab f Z fun a f=>Ah f Z Z AJ fun a f=>Aa ?_
   rcases Ae ar with⟨aw,ar⟩|⟨aw,ar⟩
   ·refine Al f Z aw ?_
    refine Am ?_
    refine Af (Aj (Ac ?_))
    refine Bn Tryz.underlying30 Z Tryz.sizeOf22 f Z fun a f=>AF 0 0 m Ba f Z Z Z Z fun a f=>Ab f Z fun a f=> ?_
    obtain⟨ax,ay,ar⟩:=bind_some ar
    refine Bf T22 f Z Z Z h0_0 ay fun az aA a aB aC f=>AG m AY f Z Z aB fun a f=>Ab f Z fun a f=> ?_
    obtain⟨aD,aE,ar⟩:=bind_some ar
    refine Bi f Z Tryz.call79 (Wk.q m aC aE) fun aF w aG m a f=> ?_
    have h0_0:=rd2 aG h0_0
    have aB:=At.mono aG aB
    have aC:=rd1 aG aC
    refine l_o f (Bd (f.eval Z)) fun a f=>Ab f Z fun a f=> ?_
    obtain⟨aH,aI,ar⟩:=bind_some ar
    refine Bz 8 (fun a w=>∃aJ,GLe aF aJ∧Mem W aJ w (Itm.box aa 30 [v0_0]::H)∧Fr a 64 [(1,(.pointer (some ⟨aa,0,none⟩))),(3,(.int .i64 ab)),(4,(.int .i64 ao)),(14,(.bool (decide (ao<ab)))),(17,(.pointer (some ⟨aa,0,none⟩))),(18,v0_0),(19,(.int .i64 ao)),(20,az),(21,aA),(22,(.int .i64 ab)),(23,(.bool aD)),(24,(.bool (!aD))),(25,(.bool (!aD))),(33,(.bool aH))]) ?_ ?_
    ·rcases Ae aI with⟨aK,aI⟩|⟨aK,aI⟩
     ·refine AE f aK fun a f=> ?_
      refine AE f aK fun a f=>AE f aK fun a f=>AE f aK fun a f=>AE f aK fun a f=>AE f aK fun a f=>AE f aK fun a f=>l_o f (AO (f.eval Z) aK (f.eval Z)) fun a f=> ?_
      obtain rfl:=sj aI
      exact⟨_,gr,m,f.k Z⟩
     ·refine AB f aK ?_
      refine Bn Tryz.underlying30 Z Tryz.sizeOf22 f Z fun a f=>AB f aK ?_
      refine AF 0 0 m Ba f Z Z Z Z fun a f=>AB f aK ?_
      refine Ab f Z fun a f=>AB f aK ?_
      obtain⟨aL,aM,aI⟩:=bind_some aI
      refine Bf T22 f Z Z Z h0_0 aM fun aN aO a aP aQ f=>AB f aK ?_
      refine AG m AY f Z Z aP fun a f=>AB f aK ?_
      refine Ab f Z fun a f=>AB f aK ?_
      obtain⟨aR,aS,aI⟩:=bind_some aI
      refine Bi f Z Tryz.call70 (Wk.h m aQ aS) fun aT w aU m a f=> ?_
      have h0_0:=rd2 aU h0_0
      have aB:=At.mono aU aB
      have aC:=rd1 aU aC
      have aP:=At.mono aU aP
      have aQ:=rd1 aU aQ
      refine l_o f (AP (f.eval Z) aK (f.eval Z)) fun a f=> ?_
      obtain rfl:=sj aI
      exact⟨_,aU,m,f.k Z⟩
    ·rintro a w ⟨aJ,aV,m,f⟩
     have h0_0:=rd2 aV h0_0
     have aB:=At.mono aV aB
     have aC:=rd1 aV aC
     refine Aa ?_
     rcases Ae ar with⟨aW,ar⟩|⟨aW,ar⟩
     ·refine Al f Z aW ?_
      refine Ac ?_
      refine Ad f Z fun a f=>Aa ?_
      refine Aq ?_
      have m:Mem W aJ w H:=Mem.drop (H':=[Itm.box aa 30 [v0_0]]) m
      obtain rfl:=sj ar
      obtain rfl:=au _ rfl
      obtain rfl:=sj hd
      exact⟨[(.bool false)],⟨f.get _ _ Z,trivial⟩,f.defers,_,[],(gt ae (gt ai (gt av (gt aG aV)))),m,Z,Z⟩
     ·refine Ai f Z aW ?_
      refine Am ?_
      refine Ak ?_
      refine Ab f Z fun a f=>Ah f Z Z Ar fun a f=>Ad f Z fun a f=>Aa ?_
      obtain rfl:=sj ar
      exact⟨_,Z,_,Z,_,(gt av (gt aG aV)),f.k Z,m⟩
   ·refine Ai f Z aw ?_
    refine Ax Z ?_
    obtain rfl:=sj ar
    obtain rfl:=au _ rfl
    exact⟨_,Z,_,av,f.k Z,m⟩
  ·rintro a w ⟨_,rfl,am,aX,f,m⟩
   have h0_0:=rd2 aX h0_0
   refine Af (Ac ?_)
   refine Ad f Z fun a f=>Aa ?_
   obtain⟨aY,aZ,hd⟩:=bind_some hd
   refine AC (fun a w=>∃q_545':Unit,aY= .inl q_545'∧∃(a0:GH),GLe am a0∧Fr a 64 []∧Mem W a0 w (H)) ?_ ?_
   ·refine Aj ?_
    refine AA (fun a1 a w=>∃a2:Int,a2=a1∧∃(a3:GH),GLe am a3∧Fr a 64 [(1,(.pointer (some ⟨aa,0,none⟩))),(3,(.int .i64 ab)),(5,(.int .i64 a2))]∧Mem W a3 w (Itm.box aa 30 [v0_0]::H)) aZ ⟨_,Z,_,gr,f.k Z,m⟩ ?_
    clear aZ f m
    rintro a1 a4 a5 a6 a w ⟨a2,rfl,a3,a7,f,m⟩
    have h0_0:=rd2 a7 h0_0
    refine Af (Ac ?_)
    refine Ab f Z fun a f=>Ab f Z fun a f=>Ah f Z Z AJ fun a f=>Aa ?_
    rcases Ae a5 with⟨a8,a5⟩|⟨a8,a5⟩
    ·refine Al f Z a8 ?_
     refine Am ?_
     refine Af (Aj (Ac ?_))
     refine Ad f Z fun a f=>Aa ?_
     obtain⟨a9,ba,a5⟩:=bind_some a5
     refine AC (fun a w=>∃q_759':Unit,a9= .inl q_759'∧∃(bb:GH),GLe a3 bb∧Fr a 64 [(1,(.pointer (some ⟨aa,0,none⟩))),(3,(.int .i64 ab)),(5,(.int .i64 a2))]∧Mem W bb w (Itm.box aa 30 [v0_0]::H)) ?_ ?_
     ·refine Aj ?_
      refine AA (fun bc a w=>∃bd:Int,bd=bc∧∃(be:GH),GLe a3 be∧Fr a 64 [(1,(.pointer (some ⟨aa,0,none⟩))),(3,(.int .i64 ab)),(5,(.int .i64 a2)),(6,(.int .i64 bd))]∧Mem W be w (Itm.box aa 30 [v0_0]::H)) ba ⟨_,Z,_,gr,f.k Z,m⟩ ?_
      clear ba f m
      rintro bc bf bg bh a w ⟨bd,rfl,be,bi,f,m⟩
      have h0_0:=rd2 bi h0_0
      refine Af (Ac ?_)
      refine Ab f Z fun a f=>Bn Tryz.underlying30 Z Tryz.sizeOf22 f Z fun a f=>AF 0 0 m Ba f Z Z Z Z fun a f=>Ab f Z fun a f=> ?_
      obtain⟨bj,bk,bg⟩:=bind_some bg
      refine Bf T22 f Z Z Z h0_0 bk fun bl bm a bn bo f=>AG m AY f Z Z bn fun a f=>AZ Tryz.underlying42 f Z Z bo fun a f=>Ah f Z Z AJ fun a f=>Aa ?_
      rcases Ae bg with⟨bp,bg⟩|⟨bp,bg⟩
      ·refine Al f Z bp ?_
       refine Am ?_
       refine Af (Aj (Af ?_))
       refine AT 15 Aw (by kernel_rfl) m ?_
       refine B3 0 15 Tryz.underlying30 Z Tryz.sizeOf22 Z f Z fun a f=>BO 1 15 0 Ba Z Z Z f Z fun a f=>B3 2 15 Tryz.underlying30 Z Tryz.sizeOf22 Z f Z fun a f=>BO 3 15 0 Ba Z Z Z f Z fun a f=>Ag 4 15 Z f Z fun a f=> ?_
       obtain⟨bq,br,bg⟩:=bind_some bg
       refine B2 5 15 T22 h0_0 br Z f Z Z fun bs bt a bu bv f=>BZ 6 15 AY bu Z f Z fun a f=>Ag 7 15 Z f Z fun a f=> ?_
       obtain⟨bw,bx,bg⟩:=bind_some bg
       refine B2 8 15 T42 bv bx Z f Z Z fun bz bA a bB bC f=> ?_
       subst bC
       refine BZ 9 15 Pl2 bB Z f Z fun a f=> ?_
       obtain⟨bD,bE,bg⟩:=bind_some bg
       refine B2 10 15 T22 h0_0 bE Z f Z Z fun bF bG a bH bI f=>BZ 11 15 AY bH Z f Z fun a f=>Ag 12 15 Z f Z fun a f=> ?_
       obtain⟨bJ,bK,bg⟩:=bind_some bg
       refine Bh (i:=13) 15 Z (by kernel_rfl) Z f Z Z Z Tryz.call70 (fun _ _ w bL m=>Wk.h m (rd1 bL bI) bK) fun a f=>q_p 14 15 Z f (fun _=>Bd (f.eval Z)) fun a f=>AI fun bM w bN m=> ?_
       have h0_0:=rd2 bN h0_0
       have bu:=At.mono bN bu
       have bv:=rd1 bN bv
       have bB:=At.mono bN bB
       have bH:=At.mono bN bH
       have bI:=rd1 bN bI
       refine Aa ?_
       rcases Ae bg with⟨bO,bg⟩|⟨bO,bg⟩
       ·refine Al f Z bO ?_
        refine Ac ?_
        refine Ad f Z fun a f=>Aa ?_
        refine Aq ?_
        have m:Mem W bM w H:=Mem.drop (H':=[Itm.box aa 30 [v0_0]]) m
        obtain rfl:=sj bg
        obtain rfl:=bh _ rfl
        obtain rfl:=sj a5
        obtain rfl:=a6 _ rfl
        obtain rfl:=sj hd
        exact⟨[(.bool false)],⟨f.get _ _ Z,trivial⟩,f.defers,_,[],(gt ae (gt ai (gt aX (gt a7 (gt bi bN))))),m,Z,Z⟩
       ·refine Ai f Z bO ?_
        refine Am ?_
        refine Ak ?_
        refine Ab f Z fun a f=>Ah f Z Z Ar fun a f=>Ad f Z fun a f=>Aa ?_
        obtain rfl:=sj bg
        exact⟨_,Z,_,Z,_,(gt bi bN),f.k Z,m⟩
      ·refine Ai f Z bp ?_
       refine Ax Z ?_
       obtain rfl:=sj bg
       obtain rfl:=bh _ rfl
       exact⟨_,Z,_,bi,f.k Z,m⟩
     ·rintro a w ⟨_,rfl,bb,bP,f,m⟩
      have h0_0:=rd2 bP h0_0
      refine Ak ?_
      refine Ab f Z fun a f=>Ah f Z Z Ar fun a f=>Ad f Z fun a f=>Aa ?_
      obtain rfl:=sj a5
      exact⟨_,Z,_,Z,_,(gt a7 bP),f.k Z,m⟩
    ·refine Ai f Z a8 ?_
     refine Ax Z ?_
     have m:Mem W a3 w H:=Mem.drop (H':=[Itm.box aa 30 [v0_0]]) m
     obtain rfl:=sj a5
     obtain rfl:=a6 _ rfl
     exact⟨_,Z,_,a7,f.weak trivial,m⟩
   ·rintro a w ⟨_,rfl,a0,bQ,f,m⟩
    refine Ac ?_
    refine Ad f Z fun a f=>Aa ?_
    refine Aq ?_
    obtain rfl:=sj hd
    exact⟨[(.bool true)],⟨f.get _ _ Z,trivial⟩,f.defers,_,[],(gt ae (gt ai (gt aX bQ))),m,Z,Z⟩
theorem Wk.B0 {W w:World}{G:GH}{H:List Itm}{v0_0:Value}{v0_1:Value}{x0_0:(List (List Int))}{x0_1:(List (List Int))}(m:Mem W G w (H))(h0_0:RSl (RSl (RI .i64)) G v0_0 x0_0)(h0_1:RSl (RSl (RI .i64)) G v0_1 x0_1){y:Bool}(hd:D.B0 x0_0 x0_1=some y):
  Calls Tryz.prog 90 #[(.agg #[v0_0,v0_1])] w (Res W G H (fun _ Ho v=>Ho=[]∧v=(.bool y))):=by
 refine As (args:=[(.agg #[v0_0,v0_1])]) (N:=41) [.tmp 2] Tryz.func90 Z Z (Nat.le_of_ble_eq_true Z) Z fun a f=> ?_
 unfold D.B0 at hd
 refine Ac ?_
 refine Bw (cs:=[v0_0,v0_1]) m f Z Z Z fun aa w a m f=>Ad f Z fun a f=>Aa (Ac ?_)
 refine Bn Tryz.underlying27 Z Tryz.sizeOf22 f Z fun a f=>AF 0 0 m Ba f Z Z Z Z fun a f=>AZ Tryz.underlying22 f Z Z h0_0 fun a f=>Ad f Z fun a f=>Aa (Af (Ac ?_))
 refine Ab f Z fun a f=> ?_
 obtain⟨ab,ac,hd⟩:=bind_some hd
 refine Bi f Z Tryz.call141 (Wk.e m ac) fun ad w ae m a f=> ?_
 have h0_0:=rd2 ae h0_0
 have h0_1:=rd2 ae h0_1
 refine l_o f (Bd (f.eval Z)) fun a f=>Ab f Z fun a f=> ?_
 refine Bz 5 (fun a w=>∃af,GLe ad af∧Mem W af w (Itm.box aa 27 [v0_0,v0_1]::H)∧Fr a 41 [(0,(.agg #[v0_0,v0_1])),(1,(.pointer (some ⟨aa,0,none⟩))),(3,(.int .i64 (x0_0.length:Int))),(8,(.int .i64 (x0_0.length:Int))),(9,(.bool ab)),(10,(.bool (!ab))),(11,(.bool (!ab))),(16,(.bool ((!ab)||(decide ((16:Int)<(x0_1.length:Int))))))]) ?_ ?_
 ·rcases Bool.eq_false_or_eq_true (!ab) with ag|ag
  ·refine AE f ag fun a f=> ?_
   refine AE f ag fun a f=>AE f ag fun a f=>AE f ag fun a f=>l_o f (AO (f.eval Z) ag (f.eval Z)) fun a f=> ?_
   exact⟨_,gr,m,f.weak ⟨Z,Z,Z,Z,Z,Z,Z,by rw[ag];rfl,trivial⟩⟩
  ·refine AB f ag ?_
   refine Bn Tryz.underlying27 Z Tryz.sizeOf22 f Z fun a f=>AB f ag ?_
   refine AF 0 1 m Ba f Z Z Z Z fun a f=>AB f ag ?_
   refine AZ Tryz.underlying22 f Z Z h0_1 fun a f=>AB f ag ?_
   refine Ah f Z Z BV fun a f=>l_o f (AP (f.eval Z) ag (f.eval Z)) fun a f=> ?_
   exact⟨_,gr,m,f.weak ⟨Z,Z,Z,Z,Z,Z,Z,by rw[ag];rfl,trivial⟩⟩
 ·rintro a w ⟨af,ah,m,f⟩
  have h0_0:=rd2 ah h0_0
  have h0_1:=rd2 ah h0_1
  refine Aa ?_
  rcases Ae hd with⟨ai,hd⟩|⟨ai,hd⟩
  ·refine Al f Z ai ?_
   refine Ac ?_
   refine Ad f Z fun a f=>Aa ?_
   refine Aq ?_
   have m:Mem W af w H:=Mem.drop (H':=[Itm.box aa 27 [v0_0,v0_1]]) m
   obtain rfl:=sj hd
   exact⟨[(.bool false)],⟨f.get _ _ Z,trivial⟩,f.defers,_,[],(gt ae ah),m,Z,Z⟩
  ·refine Ai f Z ai ?_
   refine Am ?_
   refine Af (Ac ?_)
   refine Ad f Z fun a f=>Aa ?_
   obtain⟨aj,ak,hd⟩:=bind_some hd
   refine AC (fun a w=>∃q_120':Unit,aj= .inl q_120'∧∃(al:GH),GLe af al∧Fr a 41 []∧Mem W al w (H)) ?_ ?_
   ·refine Aj ?_
    refine AA (fun am a w=>∃an:Int,an=am∧∃(ao:GH),GLe af ao∧Fr a 41 [(1,(.pointer (some ⟨aa,0,none⟩))),(3,(.int .i64 (x0_0.length:Int))),(4,(.int .i64 an))]∧Mem W ao w (Itm.box aa 27 [v0_0,v0_1]::H)) ak ⟨_,Z,_,gr,f.k Z,m⟩ ?_
    clear ak f m
    rintro am ap aq ar a w ⟨an,rfl,ao,au,f,m⟩
    have h0_0:=rd2 au h0_0
    have h0_1:=rd2 au h0_1
    refine Af (Ac ?_)
    refine Ab f Z fun a f=>Bn Tryz.underlying27 Z Tryz.sizeOf22 f Z fun a f=>AF 0 1 m Ba f Z Z Z Z fun a f=>AZ Tryz.underlying22 f Z Z h0_1 fun a f=>Ah f Z Z AJ fun a f=>Aa ?_
    rcases Ae aq with⟨av,aq⟩|⟨av,aq⟩
    ·refine Al f Z av ?_
     refine Am ?_
     refine Af (Aj (Ac ?_))
     refine Bn Tryz.underlying27 Z Tryz.sizeOf22 f Z fun a f=>AF 0 1 m Ba f Z Z Z Z fun a f=>Ab f Z fun a f=> ?_
     obtain⟨aw,ax,aq⟩:=bind_some aq
     refine Bf T22 f Z Z Z h0_1 ax fun ay az a aA aB f=>AG m AY f Z Z aA fun a f=>AZ Tryz.underlying42 f Z Z aB fun a f=>Ah f Z Z CI fun a f=>Ab f Z fun a f=> ?_
     obtain⟨aC,aD,aq⟩:=bind_some aq
     refine Bz 9 (fun a w=>∃aE,GLe ao aE∧Mem W aE w (Itm.box aa 27 [v0_0,v0_1]::H)∧Fr a 41 [(1,(.pointer (some ⟨aa,0,none⟩))),(3,(.int .i64 (x0_0.length:Int))),(4,(.int .i64 an)),(21,(.bool (decide (an<(x0_1.length:Int))))),(24,(.pointer (some ⟨aa,1,none⟩))),(25,v0_1),(26,(.int .i64 an)),(27,ay),(28,az),(29,(.int .i64 (aw.length:Int))),(30,(.bool ((aw.length:Int) !=2))),(31,(.bool ((aw.length:Int) !=2))),(40,(.bool aC))]) ?_ ?_
     ·rcases Ae aD with⟨aF,aD⟩|⟨aF,aD⟩
      ·refine AE f aF fun a f=> ?_
       refine AE f aF fun a f=>AE f aF fun a f=>AE f aF fun a f=>AE f aF fun a f=>AE f aF fun a f=>AE f aF fun a f=>AE f aF fun a f=>l_o f (AO (f.eval Z) aF (f.eval Z)) fun a f=> ?_
       obtain rfl:=sj aD
       exact⟨_,gr,m,f.k Z⟩
      ·refine AB f aF ?_
       refine Bn Tryz.underlying27 Z Tryz.sizeOf22 f Z fun a f=>AB f aF ?_
       refine AF 0 1 m Ba f Z Z Z Z fun a f=>AB f aF ?_
       refine Ab f Z fun a f=>AB f aF ?_
       obtain⟨aG,aH,aD⟩:=bind_some aD
       refine Bf T22 f Z Z Z h0_1 aH fun aI aJ a aK aL f=>AB f aF ?_
       refine AG m AY f Z Z aK fun a f=>AB f aF ?_
       refine Ab f Z fun a f=>AB f aF ?_
       obtain⟨aM,aN,aD⟩:=bind_some aD
       refine Bi f Z Tryz.call79 (Wk.q m aL aN) fun aO w aP m a f=> ?_
       have h0_1:=rd2 aP h0_1
       have aA:=At.mono aP aA
       have aB:=rd1 aP aB
       have aK:=At.mono aP aK
       have aL:=rd1 aP aL
       have h0_0:=rd2 aP h0_0
       refine AB f aF ?_
       refine l_o f (Bd (f.eval Z)) fun a f=>l_o f (AP (f.eval Z) aF (f.eval Z)) fun a f=> ?_
       obtain rfl:=sj aD
       exact⟨_,aP,m,f.k Z⟩
     ·rintro a w ⟨aE,aQ,m,f⟩
      have h0_1:=rd2 aQ h0_1
      have aA:=At.mono aQ aA
      have aB:=rd1 aQ aB
      have h0_0:=rd2 aQ h0_0
      refine Aa ?_
      rcases Ae aq with⟨aR,aq⟩|⟨aR,aq⟩
      ·refine Al f Z aR ?_
       refine Ac ?_
       refine Ad f Z fun a f=>Aa ?_
       refine Aq ?_
       have m:Mem W aE w H:=Mem.drop (H':=[Itm.box aa 27 [v0_0,v0_1]]) m
       obtain rfl:=sj aq
       obtain rfl:=ar _ rfl
       obtain rfl:=sj hd
       exact⟨[(.bool false)],⟨f.get _ _ Z,trivial⟩,f.defers,_,[],(gt ae (gt ah (gt au aQ))),m,Z,Z⟩
      ·refine Ai f Z aR ?_
       refine Am ?_
       refine Ak ?_
       refine Ab f Z fun a f=>Ah f Z Z Ar fun a f=>Ad f Z fun a f=>Aa ?_
       obtain rfl:=sj aq
       exact⟨_,Z,_,Z,_,(gt au aQ),f.k Z,m⟩
    ·refine Ai f Z av ?_
     refine Ax Z ?_
     have m:Mem W ao w H:=Mem.drop (H':=[Itm.box aa 27 [v0_0,v0_1]]) m
     obtain rfl:=sj aq
     obtain rfl:=ar _ rfl
     exact⟨_,Z,_,au,f.weak trivial,m⟩
   ·rintro a w ⟨_,rfl,al,aS,f,m⟩
    refine Ac ?_
    refine Ad f Z fun a f=>Aa ?_
    refine Aq ?_
    obtain rfl:=sj hd
    exact⟨[(.bool true)],⟨f.get _ _ Z,trivial⟩,f.defers,_,[],(gt ae (gt ah aS)),m,Z,Z⟩
theorem Wk.T0 {W w:World}{G:GH}{H:List Itm}{x0:Int}(m:Mem W G w (H)){y:((List Int))}(hd:D.T0 x0=some y):
  Calls Tryz.prog 87 #[(.int .i64 x0)] w (Res W G H (fun G' Ho v=>∃r0:Value,∃i0:Itm,Ho=[i0]∧r0=v∧Ow (RI .i64) 2 G' i0 r0 y)):=by
 refine As (args:=[(.int .i64 x0)]) (N:=16) [.tmp 2] Tryz.func87 Z Z (Nat.le_of_ble_eq_true Z) Z fun a f=> ?_
 unfold D.T0 at hd
 refine Ac ?_
 refine Ad f Z fun a f=>Aa (Ac ?_)
 refine A8 (R:=(RI .i64)) (xs:=([]:List Int)) (RI.one _) m T42 f Z Z Z (by decide) (All2.nil _) fun aa ab w a m ac f=>Ad f Z fun a f=>Aa (Af (Ac ?_))
 refine Ad f Z fun a f=>Aa ?_
 obtain⟨ad,ae,hd⟩:=bind_some hd
 refine AC (fun a w=>∃af:List Int,af=ad∧∃(ag:GH) (ah:Value) (ai:Itm),GLe G ag∧Fr a 16 [(3,ah)]∧Mem W ag w (ai::H)∧Ow (RI .i64) 2 ag ai ah af) ?_ ?_
 ·refine Aj ?_
  refine AA (fun aj a w=>∃ak:List Int,∃al:Int,(ak,al)=aj∧∃(am:GH) (an:Value) (ao:Itm),GLe G am∧Fr a 16 [(0,(.int .i64 x0)),(3,an),(4,(.int .i64 al))]∧Mem W am w (ao::H)∧Ow (RI .i64) 2 am ao an ak) ae ⟨_,_,Z,_,ab,aa,gr,f.k Z,m,ac⟩ ?_
  clear ae f m
  rintro aj ap aq ar a w ⟨ak,al,rfl,am,an,ao,au,f,m,av⟩
  refine Af (Ac ?_)
  refine Ab f Z fun a f=>Ab f Z fun a f=>Ah f Z Z AJ fun a f=>Aa ?_
  rcases Ae aq with⟨aw,aq⟩|⟨aw,aq⟩
  ·refine Al f Z aw ?_
   refine Am ?_
   refine Af (Aj (Ak ?_))
   refine Ab f Z fun a f=>Ab f Z fun a f=>A8 (R:=(RI .i64)) (xs:=([al]:List Int)) (RI.one _) m T42 f Z Z Z (by decide) (All2.cons Z (All2.nil _)) fun ax ay w a m az f=> ?_
   obtain⟨aA,aB,aq⟩:=bind_some aq
   refine Bo (RI.one _) 1 m av Z T42 Z (by decide) f Z Z Z (Ow.src (j:=0) az m Z) aB fun aC aD w a m aE f=>Ad f Z fun a f=>Aa (Ak ?_)
   refine Ab f Z fun a f=>Ah f Z Z Ar fun a f=>Ad f Z fun a f=>Aa ?_
   have m:=m.front 1 rfl
   have m:=m.eraseAt 1
   obtain rfl:=sj aq
   exact⟨_,Z,_,_,Z,_,aD,aC,au,f.k Z,m,aE⟩
  ·refine Ai f Z aw ?_
   refine Ax Z ?_
   obtain rfl:=sj aq
   obtain rfl:=ar _ rfl
   exact⟨_,Z,_,an,ao,au,f.k Z,m,av⟩
 ·rintro a w ⟨af,rfl,ag,ah,ai,aF,f,m,aG⟩
  refine Ac ?_
  refine Ab f Z fun a f=>Ad f Z fun a f=>Aa ?_
  refine Aq ?_
  obtain rfl:=sj hd
  exact⟨[ah],⟨f.get _ _ Z,trivial⟩,f.defers,_,[ai],aF,m,_,_,Z,Z,aG⟩
theorem Wk.L0 {W w:World}{G:GH}{H:List Itm}{v0_0:Value}{v0_1:Value}{x0_0:(List (List Int))}{x0_1:(List (List Int))}{x1:Int}(m:Mem W G w (H))(h0_0:RSl (RSl (RI .i64)) G v0_0 x0_0)(h0_1:RSl (RSl (RI .i64)) G v0_1 x0_1){y:((List Int))}(hd:D.L0 x0_0 x0_1 x1=some y):
  Calls Tryz.prog 111 #[(.agg #[v0_0,v0_1]),(.int .i64 x1)] w (Res W G H (fun G' Ho v=>∃r0:Value,Ho=[]∧r0=v∧RSl (RI .i64) G' r0 y)):=by
 refine As (args:=[(.agg #[v0_0,v0_1]),(.int .i64 x1)]) (N:=52) [.tmp 4] Tryz.func111 Z Z (Nat.le_of_ble_eq_true Z) Z fun a f=> ?_
 unfold D.L0 at hd
 refine Ac ?_
 refine Bw (cs:=[v0_0,v0_1]) m f Z Z Z fun aa w a m f=>Ad f Z fun a f=>Aa (Ac ?_)
 refine A8 (R:=(RI .i64)) (xs:=([]:List Int)) (RI.one _) m T42 f Z Z Z (by decide) (All2.nil _) fun ab ac w a m ad f=>Ad f Z fun a f=>Aa (Af (Ac ?_))
 refine Ad f Z fun a f=>Aa ?_
 obtain⟨ae,af,m,ag⟩:=Ow.stamp (RI.mono _) ad m
 have h0_0:=rd2 af h0_0
 have h0_1:=rd2 af h0_1
 obtain⟨ah,ai,hd⟩:=bind_some hd
 refine AC (fun a w=>∃aj:List Int,aj=ah∧∃(ak:GH) (al:Value),GLe ae ak∧Fr a 52 [(5,al)]∧Mem W ak w (H)∧RSl (RI .i64) ak al aj) ?_ ?_
 ·refine Aj ?_
  refine AA (fun am a w=>∃an:List Int,∃ao:Int,(an,ao)=am∧∃(ap:GH) (aq:Value),GLe ae ap∧Fr a 52 [(1,(.int .i64 x1)),(2,(.pointer (some ⟨aa,0,none⟩))),(5,aq),(6,(.int .i64 ao))]∧Mem W ap w (Itm.box aa 27 [v0_0,v0_1]::H)∧RSl (RI .i64) ap aq an) ai ⟨_,_,Z,_,ac,gr,f.k Z,m,ag⟩ ?_
  clear ai f m
  rintro am ar au av a w ⟨an,ao,rfl,ap,aq,aw,f,m,ax⟩
  have h0_0:=rd2 aw h0_0
  have h0_1:=rd2 aw h0_1
  refine Af (Ac ?_)
  refine Ab f Z fun a f=>Bn Tryz.underlying27 Z Tryz.sizeOf22 f Z fun a f=>AF 0 1 m Ba f Z Z Z Z fun a f=>AZ Tryz.underlying22 f Z Z h0_1 fun a f=>Ah f Z Z AJ fun a f=>Aa ?_
  rcases Ae au with⟨ay,au⟩|⟨ay,au⟩
  ·refine Al f Z ay ?_
   refine Am ?_
   refine Af (Aj (Af (Ac ?_)))
   refine Bn Tryz.underlying27 Z Tryz.sizeOf22 f Z fun a f=>AF 0 1 m Ba f Z Z Z Z fun a f=>Ab f Z fun a f=> ?_
   obtain⟨az,aA,au⟩:=bind_some au
   refine Bf T22 f Z Z Z h0_1 aA fun aB aC a aD aE f=>AG m AY f Z Z aD fun a f=> ?_
   obtain⟨aF,aG,au⟩:=bind_some au
   refine Bf T42 f Z Z Z aE aG fun aH aI a aJ aK f=> ?_
   subst aK
   refine AG m Pl2 f Z Z aJ fun a f=>Ab f Z fun a f=>Ah f Z Z By fun a f=>Aa ?_
   obtain⟨aL,aM,au⟩:=bind_some au
   refine AC (fun a w=>∃aN:List Int,aN=aL∧∃(aO:GH) (aP:Value),GLe ap aO∧Fr a 52 [(1,(.int .i64 x1)),(2,(.pointer (some ⟨aa,0,none⟩))),(5,aP),(6,(.int .i64 ao))]∧Mem W aO w (Itm.box aa 27 [v0_0,v0_1]::H)∧RSl (RI .i64) aO aP aN) ?_ ?_
   ·rcases Ae aM with⟨aQ,aM⟩|⟨aQ,aM⟩
    ·refine Al f Z aQ ?_
     refine Ak ?_
     refine Ab f Z fun a f=>Bn Tryz.underlying27 Z Tryz.sizeOf22 f Z fun a f=>AF 0 1 m Ba f Z Z Z Z fun a f=>Ab f Z fun a f=> ?_
     obtain⟨aR,aS,aM⟩:=bind_some aM
     refine Bf T22 f Z Z Z h0_1 aS fun aT aU a aV aW f=>AG m AY f Z Z aV fun a f=> ?_
     obtain⟨aX,aY,aM⟩:=bind_some aM
     refine Bf T42 f Z Z Z aW aY fun aZ a0 a a1 a2 f=> ?_
     subst a2
     refine AG m Pl2 f Z Z a1 fun a f=> ?_
     obtain⟨a3,a4,aM⟩:=bind_some aM
     refine AK f Z Tryz.call68 (Wk.t m ax a4) fun a5 a6 a7 w a8 m a9 a f=> ?_
     obtain⟨ba,rfl,rfl,bb⟩:=a9
     have ax:=rd1 a8 ax
     have h0_1:=rd2 a8 h0_1
     have aV:=At.mono a8 aV
     have aW:=rd1 a8 aW
     have a1:=At.mono a8 a1
     have h0_0:=rd2 a8 h0_0
     refine Ad f Z fun a f=>Aa ?_
     obtain rfl:=sj aM
     exact⟨_,Z,_,ba,a8,f.k Z,m,bb⟩
    ·refine Ai f Z aQ ?_
     refine Am ?_
     obtain rfl:=sj aM
     exact⟨_,Z,_,aq,gr,f.k Z,m,ax⟩
   ·rintro a w ⟨aN,rfl,aO,aP,bc,f,m,bd⟩
    have h0_0:=rd2 bc h0_0
    have h0_1:=rd2 bc h0_1
    refine Ac ?_
    refine Bn Tryz.underlying27 Z Tryz.sizeOf22 f Z fun a f=>AF 0 1 m Ba f Z Z Z Z fun a f=>Ab f Z fun a f=> ?_
    obtain⟨be,bf,au⟩:=bind_some au
    refine Bf T22 f Z Z Z h0_1 bf fun bg bh a bi bj f=>AG m AY f Z Z bi fun a f=> ?_
    obtain⟨bk,bl,au⟩:=bind_some au
    refine Bf T42 f Z Z Z bj bl fun bm bn a bo bp f=> ?_
    subst bp
    refine AG m Pl2 f Z Z bo fun a f=>Ab f Z fun a f=>Ah f Z Z By fun a f=>Aa ?_
    rcases Ae au with⟨bq,au⟩|⟨bq,au⟩
    ·refine Al f Z bq ?_
     refine Ak ?_
     refine Ab f Z fun a f=>Bn Tryz.underlying27 Z Tryz.sizeOf22 f Z fun a f=>AF 0 1 m Ba f Z Z Z Z fun a f=>Ab f Z fun a f=> ?_
     obtain⟨br,bs,au⟩:=bind_some au
     refine Bf T22 f Z Z Z h0_1 bs fun bt bu a bv bw f=>AG m AY f Z Z bv fun a f=> ?_
     obtain⟨bx,bz,au⟩:=bind_some au
     refine Bf T42 f Z Z Z bw bz fun bA bB a bC bD f=> ?_
     subst bD
     refine AG m Pl2 f Z Z bC fun a f=> ?_
     obtain⟨bE,bF,au⟩:=bind_some au
     refine AK f Z Tryz.call68 (Wk.t m bd bF) fun bG bH bI w bJ m bK a f=> ?_
     obtain⟨bL,rfl,rfl,bM⟩:=bK
     have bd:=rd1 bJ bd
     have h0_1:=rd2 bJ h0_1
     have bv:=At.mono bJ bv
     have bw:=rd1 bJ bw
     have bC:=At.mono bJ bC
     have h0_0:=rd2 bJ h0_0
     refine Ad f Z fun a f=>Aa (Ak ?_)
     refine Ab f Z fun a f=>Ah f Z Z Ar fun a f=>Ad f Z fun a f=>Aa ?_
     obtain rfl:=sj au
     exact⟨_,Z,_,_,Z,_,bL,(gt aw (gt bc bJ)),f.k Z,m,bM⟩
    ·refine Ai f Z bq ?_
     refine Am ?_
     refine Ak ?_
     refine Ab f Z fun a f=>Ah f Z Z Ar fun a f=>Ad f Z fun a f=>Aa ?_
     obtain rfl:=sj au
     exact⟨_,Z,_,_,Z,_,aP,(gt aw bc),f.k Z,m,bd⟩
  ·refine Ai f Z ay ?_
   refine Ax Z ?_
   have m:Mem W ap w H:=Mem.drop (H':=[Itm.box aa 27 [v0_0,v0_1]]) m
   obtain rfl:=sj au
   obtain rfl:=av _ rfl
   exact⟨_,Z,_,aq,aw,f.k Z,m,ax⟩
 ·rintro a w ⟨aj,rfl,ak,al,bN,f,m,bO⟩
  refine Ac ?_
  refine Ab f Z fun a f=>Ad f Z fun a f=>Aa ?_
  refine Aq ?_
  obtain rfl:=sj hd
  exact⟨[al],⟨f.get _ _ Z,trivial⟩,f.defers,_,[],(gt af bN),m,_,Z,Z,bO⟩
theorem Wk.A {W w:World}{G:GH}{H:List Itm}{v0_0:Value}{v0_1:Value}{v1:Value}{x0_0:(List (List Int))}{x0_1:(List (List Int))}{x1:(List Int)}(m:Mem W G w (H))(h0_0:RSl (RSl (RI .i64)) G v0_0 x0_0)(h0_1:RSl (RSl (RI .i64)) G v0_1 x0_1)(h1:RSl (RI .i64) G v1 x1){y:Int}(hd:D.A x0_0 x0_1 x1=some y):
  Calls Tryz.prog 84 #[(.agg #[v0_0,v0_1]),v1] w (Res W G H (fun _ Ho v=>Ho=[]∧v=(.int .i64 y))):=by
 refine As (args:=[(.agg #[v0_0,v0_1]),v1]) (N:=58) [.tmp 4] Tryz.func84 Z Z (Nat.le_of_ble_eq_true Z) Z fun a f=> ?_
 unfold D.A at hd
 refine Ac ?_
 refine Bw (cs:=[v0_0,v0_1]) m f Z Z Z fun aa w a m f=>Ad f Z fun a f=>Aa (Af (Ac ?_))
 refine Ab f Z fun a f=>AZ Tryz.underlying42 f Z Z h1 fun a f=>Ah f Z Z By fun a f=>Aa ?_
 rcases Ae hd with⟨ab,hd⟩|⟨ab,hd⟩
 ·refine Al f Z ab ?_
  refine Ac ?_
  refine Ad f Z fun a f=>Aa ?_
  refine Aq ?_
  have m:Mem W G w H:=Mem.drop (H':=[Itm.box aa 27 [v0_0,v0_1]]) m
  obtain rfl:=sj hd
  exact⟨[(.int .i64 0)],⟨f.get _ _ Z,trivial⟩,f.defers,_,[],gr,m,Z,Z⟩
 ·refine Ai f Z ab ?_
  refine Am ?_
  refine Ac ?_
  refine Ab f Z fun a f=> ?_
  obtain⟨ac,ad,hd⟩:=bind_some hd
  refine Bf T42 f Z Z Z h1 ad fun ae af a ag ah f=> ?_
  subst ah
  refine AG m Pl2 f Z Z ag fun a f=>A8 (R:=(RI .i64)) (xs:=([ac]:List Int)) (RI.one _) m T42 f Z Z Z (by decide) (All2.cons Z (All2.nil _)) fun ai aj w a m ak f=>Ad f Z fun a f=>Aa (Af (Ac ?_))
  refine Ad f Z fun a f=>Aa ?_
  obtain⟨al,am,hd⟩:=bind_some hd
  refine AC (fun a w=>∃an:List Int,an=al∧∃(ao:GH) (ap:Value) (aq:Itm),GLe G ao∧Fr a 58 [(5,ap)]∧Mem W ao w (aq::H)∧Ow (RI .i64) 2 ao aq ap an) ?_ ?_
  ·refine Aj ?_
   have m:=m.front 1 rfl
   refine AA (fun ar a w=>∃au:List Int,∃av:Int,(au,av)=ar∧∃(aw:GH) (ax:Value) (ay:Itm),GLe G aw∧Fr a 58 [(1,v1),(2,(.pointer (some ⟨aa,0,none⟩))),(5,ax),(6,(.int .i64 av))]∧Mem W aw w (Itm.box aa 27 [v0_0,v0_1]::ay::H)∧Ow (RI .i64) 2 aw ay ax au) am ⟨_,_,Z,_,aj,ai,gr,f.k Z,m,ak⟩ ?_
   clear am f m
   rintro ar az aA aB a w ⟨au,av,rfl,aw,ax,ay,aC,f,m,aD⟩
   have h1:=rd1 aC h1
   have h0_0:=rd2 aC h0_0
   have h0_1:=rd2 aC h0_1
   refine Af (Ac ?_)
   refine Ab f Z fun a f=>Ab f Z fun a f=>BB 1 m aD Z Tryz.underlying42 f Z Z fun a f=>Ah f Z Z AJ fun a f=>Aa ?_
   rcases Ae aA with⟨aE,aA⟩|⟨aE,aA⟩
   ·refine Al f Z aE ?_
    refine Am ?_
    refine Af (Aj (Af ?_))
    refine AT 7 Aw (by kernel_rfl) m ?_
    refine Bt (i:=0) (ds:=[v0_0,v0_1]) 7 0 B5 Z Z Z Z (by kernel_rfl) Z f Z Z Z fun a f=>Ag 1 7 Z f Z fun a f=>Ag 2 7 Z f Z fun a f=> ?_
    obtain⟨aF,aG,aA⟩:=bind_some aA
    refine Az 3 7 1 m aD T42 aG Z f Z Z fun aH a aI f=>AL 4 7 1 aD Pl2 aI aG Z f Z fun aJ a aK f=> ?_
    subst aK
    refine BD (i:=5) Z (by kernel_rfl) Z fun aL w aM m aN aN=> ?_
    have h1:=rd1 aM h1
    have h0_0:=rd2 aM h0_0
    have h0_1:=rd2 aM h0_1
    have aD:=od1 aM aD
    obtain⟨aO,aP,aA⟩:=bind_some aA
    refine AK f Z Tryz.call111 (Wk.L0 m h0_0 h0_1 aP) fun aQ aR aS w aT m aU a f=> ?_
    obtain⟨aV,rfl,rfl,aW⟩:=aU
    have h1:=rd1 aT h1
    have h0_0:=rd2 aT h0_0
    have h0_1:=rd2 aT h0_1
    have aD:=od1 aT aD
    refine Aa ?_
    refine aN aR [] _ _ aT m ?_
    refine q_p 6 7 Z f (fun _=>Bl (f.eval Z)) fun a f=>AI fun aX w aY m=> ?_
    have h1:=rd1 aY h1
    have aW:=rd1 aY aW
    have h0_0:=rd2 aY h0_0
    have h0_1:=rd2 aY h0_1
    have aD:=od1 aY aD
    refine Aa (Ac ?_)
    refine Ad f Z fun a f=>Aa ?_
    obtain⟨aZ,a0,aA⟩:=bind_some aA
    refine AC (fun a w=>∃a1:List Int,a1=aZ∧∃(a2:GH) (a3:Value) (a4:Itm),GLe aX a2∧Fr a 58 [(1,v1),(2,(.pointer (some ⟨aa,0,none⟩))),(5,a3),(6,(.int .i64 av))]∧Mem W a2 w (Itm.box aa 27 [v0_0,v0_1]::a4::H)∧Ow (RI .i64) 2 a2 a4 a3 a1) ?_ ?_
    ·refine Aj ?_
     refine AA (fun a5 a w=>∃a6:List Int,∃a7:Int,(a6,a7)=a5∧∃(a8:GH) (a9:Value) (ba:Itm),GLe aX a8∧Fr a 58 [(1,v1),(2,(.pointer (some ⟨aa,0,none⟩))),(5,a9),(6,(.int .i64 av)),(7,aV),(8,(.int .i64 a7))]∧Mem W a8 w (Itm.box aa 27 [v0_0,v0_1]::ba::H)∧Ow (RI .i64) 2 a8 ba a9 a6) a0 ⟨_,_,Z,_,ax,ay,gr,f.k Z,m,aD⟩ ?_
     clear a0 f m
     rintro a5 bb bc bd a w ⟨a6,a7,rfl,a8,a9,ba,be,f,m,bf⟩
     have h1:=rd1 be h1
     have aW:=rd1 be aW
     have h0_0:=rd2 be h0_0
     have h0_1:=rd2 be h0_1
     refine Af (Ac ?_)
     refine Ab f Z fun a f=>Ab f Z fun a f=>AZ Tryz.underlying42 f Z Z aW fun a f=>Ah f Z Z AJ fun a f=>Aa ?_
     rcases Ae bc with⟨bg,bc⟩|⟨bg,bc⟩
     ·refine Al f Z bg ?_
      refine Am ?_
      refine Af (Aj (Ac ?_))
      refine Ab f Z fun a f=>Ab f Z fun a f=>Ab f Z fun a f=> ?_
      obtain⟨bh,bi,bc⟩:=bind_some bc
      refine Bf T42 f Z Z Z aW bi fun bj bk a bl bm f=> ?_
      subst bm
      refine AG m Pl2 f Z Z bl fun a f=> ?_
      obtain⟨bn,bo,bc⟩:=bind_some bc
      refine Bi f Z Tryz.call70 (Wk.h m h1 bo) fun bp w bq m a f=> ?_
      have h1:=rd1 bq h1
      have aW:=rd1 bq aW
      have bl:=At.mono bq bl
      have h0_0:=rd2 bq h0_0
      have h0_1:=rd2 bq h0_1
      have bf:=od1 bq bf
      refine Ab f Z fun a f=> ?_
      obtain⟨br,bs,bc⟩:=bind_some bc
      refine Bz 8 (fun a w=>∃bt,GLe bp bt∧Mem W bt w (Itm.box aa 27 [v0_0,v0_1]::ba::H)∧Fr a 58 [(1,v1),(2,(.pointer (some ⟨aa,0,none⟩))),(5,a9),(6,(.int .i64 av)),(7,aV),(8,(.int .i64 a7)),(31,(.bool (decide (a7<(aO.length:Int))))),(34,v1),(35,aV),(36,(.int .i64 a7)),(37,bj),(38,(.int .i64 bh)),(39,(.bool bn)),(40,(.bool bn)),(48,(.bool br))]) ?_ ?_
      ·rcases Ae bs with⟨bu,bs⟩|⟨bu,bs⟩
       ·refine AB f bu ?_
        refine Ab f Z fun a f=>AB f bu ?_
        refine Ab f Z fun a f=>AB f bu ?_
        refine Ab f Z fun a f=>AB f bu ?_
        obtain⟨bv,bw,bs⟩:=bind_some bs
        refine Bf T42 f Z Z Z aW bw fun bx bz a bA bB f=> ?_
        subst bB
        refine AB f bu ?_
        refine AG m Pl2 f Z Z bA fun a f=>AB f bu ?_
        obtain⟨bC,bD,bs⟩:=bind_some bs
        refine AK f Z Tryz.call70 (Ow.lendCall (RI.mono _) 1 bf m Z (fun bE bF m bG=>Wk.h m bG bD) (fun _ _ _ _ h=>h)) fun bH bI bJ w bK m bL a f=> ?_
        obtain⟨rfl,rfl⟩:=bL
        have h1:=rd1 bK h1
        have aW:=rd1 bK aW
        have bl:=At.mono bK bl
        have bA:=At.mono bK bA
        have h0_0:=rd2 bK h0_0
        have h0_1:=rd2 bK h0_1
        have bf:=od1 bK bf
        refine AB f bu ?_
        refine l_o f (Bd (f.eval Z)) fun a f=>l_o f (AO (f.eval Z) bu (f.eval Z)) fun a f=> ?_
        obtain rfl:=sj bs
        exact⟨_,bK,m,f.k Z⟩
       ·refine AE f bu fun a f=> ?_
        refine AE f bu fun a f=>AE f bu fun a f=>AE f bu fun a f=>AE f bu fun a f=>AE f bu fun a f=>AE f bu fun a f=>l_o f (AP (f.eval Z) bu (f.eval Z)) fun a f=> ?_
        obtain rfl:=sj bs
        exact⟨_,gr,m,f.k Z⟩
      ·rintro a w ⟨bt,bM,m,f⟩
       have h1:=rd1 bM h1
       have aW:=rd1 bM aW
       have bl:=At.mono bM bl
       have h0_0:=rd2 bM h0_0
       have h0_1:=rd2 bM h0_1
       have bf:=od1 bM bf
       refine Aa ?_
       rcases Ae bc with⟨bN,bc⟩|⟨bN,bc⟩
       ·refine Al f Z bN ?_
        refine Ak ?_
        refine Ab f Z fun a f=>Ab f Z fun a f=>Ab f Z fun a f=> ?_
        obtain⟨bO,bP,bc⟩:=bind_some bc
        refine Bf T42 f Z Z Z aW bP fun bQ bR a bS bT f=> ?_
        subst bT
        refine AG m Pl2 f Z Z bS fun a f=>A8 (R:=(RI .i64)) (xs:=([bO]:List Int)) (RI.one _) m T42 f Z Z Z (by decide) (All2.cons Z (All2.nil _)) fun bU bV w a m bW f=> ?_
        obtain⟨bX,bY,bc⟩:=bind_some bc
        refine Bo (RI.one _) 2 m bf Z T42 Z (by decide) f Z Z Z (Ow.src (j:=0) bW m Z) bY fun bZ b0 w a m b1 f=>Ad f Z fun a f=>Aa (Ak ?_)
        refine Ab f Z fun a f=>Ah f Z Z Ar fun a f=>Ad f Z fun a f=>Aa ?_
        have m:=m.front 2 rfl
        have m:=m.front 2 rfl
        have m:=m.eraseAt 2
        obtain rfl:=sj bc
        exact⟨_,Z,_,_,Z,_,b0,bZ,(gt be (gt bq bM)),f.k Z,m,b1⟩
       ·refine Ai f Z bN ?_
        refine Am ?_
        refine Ak ?_
        refine Ab f Z fun a f=>Ah f Z Z Ar fun a f=>Ad f Z fun a f=>Aa ?_
        obtain rfl:=sj bc
        exact⟨_,Z,_,_,Z,_,a9,ba,(gt be (gt bq bM)),f.k Z,m,bf⟩
     ·refine Ai f Z bg ?_
      refine Ax Z ?_
      obtain rfl:=sj bc
      obtain rfl:=bd _ rfl
      exact⟨_,Z,_,a9,ba,be,f.k Z,m,bf⟩
    ·rintro a w ⟨a1,rfl,a2,a3,a4,b2,f,m,b3⟩
     have h1:=rd1 b2 h1
     have h0_0:=rd2 b2 h0_0
     have h0_1:=rd2 b2 h0_1
     refine Ak ?_
     refine Ab f Z fun a f=>Ah f Z Z Ar fun a f=>Ad f Z fun a f=>Aa ?_
     obtain rfl:=sj aA
     exact⟨_,Z,_,_,Z,_,a3,a4,(gt aC (gt aM (gt aT (gt aY b2)))),f.k Z,m,b3⟩
   ·refine Ai f Z aE ?_
    refine Ax Z ?_
    have m:=m.front 1 rfl
    have m:=m.eraseAt 1
    obtain rfl:=sj aA
    obtain rfl:=aB _ rfl
    exact⟨_,Z,_,ax,ay,aC,f.k Z,m,aD⟩
  ·rintro a w ⟨an,rfl,ao,ap,aq,b4,f,m,b5⟩
   refine Ac ?_
   refine Ab f Z fun a f=>BB 0 m b5 Z Tryz.underlying42 f Z Z fun a f=>Ad f Z fun a f=>Aa ?_
   refine Aq ?_
   have m:Mem W ao w H:=Mem.drop (H':=[aq]) m
   obtain rfl:=sj hd
   exact⟨[(.int .i64 (an.length:Int))],⟨f.get _ _ Z,trivial⟩,f.defers,_,[],b4,m,Z,Z⟩
theorem Wk.s1 {W w:World}{G:GH}{H:List Itm}{v0_0:Value}{v0_1:Value}{x0_0:(List (List Int))}{x0_1:(List (List Int))}(m:Mem W G w (H))(h0_0:RSl (RSl (RI .i64)) G v0_0 x0_0)(h0_1:RSl (RSl (RI .i64)) G v0_1 x0_1){y:Bool}(hd:D.s1 x0_0 x0_1=some y):
  Calls Tryz.prog 78 #[(.agg #[v0_0,v0_1])] w (Res W G H (fun _ Ho v=>Ho=[]∧v=(.bool y))):=by
 refine As (args:=[(.agg #[v0_0,v0_1])]) (N:=27) [.tmp 2] Tryz.func78 Z Z (Nat.le_of_ble_eq_true Z) Z fun a f=> ?_
 unfold D.s1 at hd
 refine Ac ?_
 refine Bw (cs:=[v0_0,v0_1]) m f Z Z Z fun aa w a m f=>Ad f Z fun a f=>Aa (Af ?_)
 refine AT 25 Aw (by kernel_rfl) m ?_
 refine Bt (i:=0) (ds:=[v0_0,v0_1]) 25 0 B5 Z Z Z Z (by kernel_rfl) Z f Z Z Z fun a f=> ?_
 obtain⟨ab,ac,hd⟩:=bind_some hd
 refine Bh (i:=1) 25 Z (by kernel_rfl) Z f Z Z Z Tryz.call90 (fun _ _ w ad m=>Wk.B0 m (rd2 ad h0_0) (rd2 ad h0_1) ac) fun a f=>Ag 2 25 Z f Z fun a f=>BN (fuel':=13) (listed':= #[true,true,true,true,true,true,true,true,true,true,true,true,false,false,false,false,false,false,false,false,false,false,false,false,false]) (fun a=>Fr a 27 [(0,(.agg #[v0_0,v0_1])),(1,(.pointer (some ⟨aa,0,none⟩))),(3,(.agg #[v0_0,v0_1])),(4,(.bool ab)),(5,(.bool ab)),(14,(.bool (ab&&((x0_1.length:Int)==(IntKind.i64.wrap ((x0_0.length:Int)-1))))))]) ?_ ?_
 ·intro a f
  refine Ag 12 25 Z f Z fun a f=> ?_
  rcases Ae hd with⟨ae,hd⟩|⟨ae,hd⟩
  ·refine Bt (i:=13) (ds:=[v0_0,v0_1]) 25 0 B5 Z Z Z Z (by kernel_rfl) Z f (AQ f Z Z Z ae) Z Z fun a f=> ?_
   refine B3 (hw:=wo f ae) 14 25 Tryz.underlying27 Z Tryz.sizeOf22 Z f Z fun a f=>BO (hw:=wo f ae) 15 25 0 Ba Z Z Z f Z fun a f=>Ei (i:=16) 25 Tryz.underlying22 h0_0 Z (by kernel_rfl) Z f (AQ f Z Z Z ae) Z Z fun a f=>B3 (hw:=wo f ae) 19 25 Tryz.underlying27 Z Tryz.sizeOf22 Z f Z fun a f=>BO (hw:=wo f ae) 20 25 0 Ba Z Z Z f Z fun a f=>Ei (i:=21) 25 Tryz.underlying22 h0_0 Z (by kernel_rfl) Z f (AQ f Z Z Z ae) Z Z fun a f=>BD (i:=17) Z (by kernel_rfl) Z fun af w ag m ah ah=> ?_
   have h0_0:=rd2 ag h0_0
   have h0_1:=rd2 ag h0_1
   refine AB f ae ?_
   obtain⟨ai,aj,hd⟩:=bind_some hd
   refine AK f Z Tryz.call87 (Wk.T0 m aj) fun ak al am w an m ao a f=> ?_
   obtain⟨ap,aq,rfl,rfl,ar⟩:=ao
   have h0_0:=rd2 an h0_0
   have h0_1:=rd2 an h0_1
   refine Aa ?_
   refine ah al [aq] _ _ an m ?_
   refine BD (i:=18) Z (by kernel_rfl) Z fun au w av m aw aw=> ?_
   have h0_0:=rd2 av h0_0
   have h0_1:=rd2 av h0_1
   have ar:=od1 av ar
   refine AB f ae ?_
   obtain⟨ax,ay,hd⟩:=bind_some hd
   refine AK f Z Tryz.call84 (Ow.lendCall (RI.mono _) 0 ar m Z (fun az aA m aB=>Wk.A m (rd2 aA h0_0) (rd2 aA h0_1) aB ay) (fun _ _ _ _ h=>h)) fun aC aD aE w aF m aG a f=> ?_
   obtain⟨rfl,rfl⟩:=aG
   have h0_0:=rd2 aF h0_0
   have h0_1:=rd2 aF h0_1
   have ar:=od1 aF ar
   refine Aa ?_
   refine aw aD [aq] _ _ aF m ?_
   refine q_p (hw:=wo f ae) 22 25 Z f (fun _=>AD (f.eval Z) (f.eval Z) By) fun a f=>q_p 23 25 Z f (fun _=>AO (f.eval Z) ae (f.eval Z)) fun a f=>q_p 24 25 Z f (fun _=>Bl (f.eval Z)) fun a f=>AI fun aH w aI m=> ?_
   have h0_0:=rd2 aI h0_0
   have h0_1:=rd2 aI h0_1
   have ar:=od1 aI ar
   refine Aa ?_
   refine Aq ?_
   have m:Mem W aH w H:=Mem.drop (H':=[aq,Itm.box aa 27 [v0_0,v0_1]]) m
   obtain rfl:=sj hd
   exact⟨[(.bool (ax==(x0_0.length:Int)))],⟨f.get _ _ Z,trivial⟩,f.defers,_,[],(gt ag (gt an (gt av (gt aF aI)))),m,Z,Z⟩
  ·refine An 13 25 Z f ae fun a f=> ?_
   refine An 14 25 Z f ae fun a f=>An 15 25 Z f ae fun a f=>An 16 25 Z f ae fun a f=>An 17 25 Z f ae fun a f=>An 18 25 Z f ae fun a f=>An 19 25 Z f ae fun a f=>An 20 25 Z f ae fun a f=>An 21 25 Z f ae fun a f=>An 22 25 Z f ae fun a f=>q_p 23 25 Z f (fun _=>AP (f.eval Z) ae (f.eval Z)) fun a f=>q_p 24 25 Z f (fun _=>Bl (f.eval Z)) fun a f=>AI fun aJ w aK m=> ?_
   have h0_0:=rd2 aK h0_0
   have h0_1:=rd2 aK h0_1
   refine Aa ?_
   refine Aq ?_
   have m:Mem W aJ w H:=Mem.drop (H':=[Itm.box aa 27 [v0_0,v0_1]]) m
   obtain rfl:=sj hd
   exact⟨[(.bool false)],⟨f.get _ _ Z,trivial⟩,f.defers,_,[],aK,m,Z,Z⟩
 ·intro aL
  rcases Bool.eq_false_or_eq_true ab with aM|aM
  ·refine B3 (hw:=wo f aM) 3 25 Tryz.underlying27 Z Tryz.sizeOf22 Z f Z fun a f=> ?_
   refine BO (hw:=wo f aM) 4 25 0 Ba Z Z Z f Z fun a f=>Ei (i:=5) 25 Tryz.underlying22 h0_1 Z (by kernel_rfl) Z f (AQ f Z Z Z aM) Z Z fun a f=>B3 (hw:=wo f aM) 6 25 Tryz.underlying27 Z Tryz.sizeOf22 Z f Z fun a f=>BO (hw:=wo f aM) 7 25 0 Ba Z Z Z f Z fun a f=>Ei (i:=8) 25 Tryz.underlying22 h0_0 Z (by kernel_rfl) Z f (AQ f Z Z Z aM) Z Z fun a f=>q_p (hw:=wo f aM) 9 25 Z f (fun _=>AD (f.eval Z) (f.eval Z) AH) fun a f=>q_p (hw:=wo f aM) 10 25 Z f (fun _=>AD (f.eval Z) (f.eval Z) By) fun a f=>q_p 11 25 Z f (fun _=>AO (f.eval Z) aM (f.eval Z)) fun a f=> ?_
   exact aL _ (f.weak ⟨Z,Z,Z,Z,Z,by rw[aM];rfl,trivial⟩)
  ·refine An 3 25 Z f aM fun a f=> ?_
   refine An 4 25 Z f aM fun a f=>An 5 25 Z f aM fun a f=>An 6 25 Z f aM fun a f=>An 7 25 Z f aM fun a f=>An 8 25 Z f aM fun a f=>An 9 25 Z f aM fun a f=>An 10 25 Z f aM fun a f=>q_p 11 25 Z f (fun _=>AP (f.eval Z) aM (f.eval Z)) fun a f=> ?_
   exact aL _ (f.weak ⟨Z,Z,Z,Z,Z,by rw[aM];rfl,trivial⟩)
theorem Wk.e0 {W w:World}{G:GH}{H:List Itm}{v0_0:Value}{x0_0:(List (List Int))}(m:Mem W G w (H))(h0_0:RSl (RSl (RI .i64)) G v0_0 x0_0){y:((List (List Int)))}(hd:D.e0 x0_0=some y):
  Calls Tryz.prog 81 #[(.agg #[v0_0])] w (Res W G H (fun G' Ho v=>∃r0:Value,∃i0:Itm,Ho=[i0]∧r0=v∧Ow (RSl (RI .i64)) 42 G' i0 r0 y)):=by
 refine As (args:=[(.agg #[v0_0])]) (N:=47) [.tmp 2] Tryz.func81 Z Z (Nat.le_of_ble_eq_true Z) Z fun a f=> ?_
 unfold D.e0 at hd
 refine Ac ?_
 refine Bw (cs:=[v0_0]) m f Z Z Z fun aa w a m f=>Ad f Z fun a f=>Aa (Ac ?_)
 refine A8 (R:=(RSl (RI .i64))) (xs:=([]:List (List Int))) (RSl.one _) m T22 f Z Z Z (by decide) (All2.nil _) fun ab ac w a m ad f=>Ad f Z fun a f=>Aa (Af (Ac ?_))
 refine Ad f Z fun a f=>Aa ?_
 obtain⟨ae,af,hd⟩:=bind_some hd
 refine AC (fun a w=>∃ag:List (List Int),ag=ae∧∃(ah:GH) (ai:Value) (aj:Itm),GLe G ah∧Fr a 47 [(3,ai)]∧Mem W ah w (aj::H)∧Ow (RSl (RI .i64)) 42 ah aj ai ag) ?_ ?_
 ·refine Aj ?_
  have m:=m.front 1 rfl
  refine AA (fun ak a w=>∃al:List (List Int),∃am:Int,(al,am)=ak∧∃(an:GH) (ao:Value) (ap:Itm),GLe G an∧Fr a 47 [(1,(.pointer (some ⟨aa,0,none⟩))),(3,ao),(4,(.int .i64 am))]∧Mem W an w (Itm.box aa 30 [v0_0]::ap::H)∧Ow (RSl (RI .i64)) 42 an ap ao al) af ⟨_,_,Z,_,ac,ab,gr,f.k Z,m,ad⟩ ?_
  clear af f m
  rintro ak aq ar au a w ⟨al,am,rfl,an,ao,ap,av,f,m,aw⟩
  have h0_0:=rd2 av h0_0
  refine Af (Ac ?_)
  refine Ab f Z fun a f=>A5 0 0 (ds:=[v0_0]) m Bq f Z Z Z Z Z fun a f=> ?_
  obtain⟨ax,ay,ar⟩:=bind_some ar
  refine Bi f Z Tryz.call80 (Wk.d m h0_0 ay) fun az w aA m a f=> ?_
  have h0_0:=rd2 aA h0_0
  have aw:=Ow.mono (RSl.mono (RI.mono _)) aA aw
  refine Ah f Z Z AJ fun a f=>Aa ?_
  rcases Ae ar with⟨aB,ar⟩|⟨aB,ar⟩
  ·refine Al f Z aB ?_
   refine Am ?_
   refine Af (Aj (Ac ?_))
   refine Ad f Z fun a f=>Aa ?_
   obtain⟨aC,aD,ar⟩:=bind_some ar
   refine AC (fun a w=>∃aE:List (List Int),aE=aC∧∃(aF:GH) (aG:Value) (aH:Itm),GLe az aF∧Fr a 47 [(1,(.pointer (some ⟨aa,0,none⟩))),(3,aG),(4,(.int .i64 am))]∧Mem W aF w (Itm.box aa 30 [v0_0]::aH::H)∧Ow (RSl (RI .i64)) 42 aF aH aG aE) ?_ ?_
   ·refine Aj ?_
    refine AA (fun aI a w=>∃aJ:List (List Int),∃aK:Int,(aJ,aK)=aI∧∃(aL:GH) (aM:Value) (aN:Itm),GLe az aL∧Fr a 47 [(1,(.pointer (some ⟨aa,0,none⟩))),(3,aM),(4,(.int .i64 am)),(5,(.int .i64 aK))]∧Mem W aL w (Itm.box aa 30 [v0_0]::aN::H)∧Ow (RSl (RI .i64)) 42 aL aN aM aJ) aD ⟨_,_,Z,_,ao,ap,gr,f.k Z,m,aw⟩ ?_
    clear aD f m
    rintro aI aO aP aQ a w ⟨aJ,aK,rfl,aL,aM,aN,aR,f,m,aS⟩
    have h0_0:=rd2 aR h0_0
    refine Af (Ac ?_)
    refine Ab f Z fun a f=>Bn Tryz.underlying30 Z Tryz.sizeOf22 f Z fun a f=>AF 0 0 m Ba f Z Z Z Z fun a f=>Ab f Z fun a f=> ?_
    obtain⟨aT,aU,aP⟩:=bind_some aP
    refine Bf T22 f Z Z Z h0_0 aU fun aV aW a aX aY f=>AG m AY f Z Z aX fun a f=>AZ Tryz.underlying42 f Z Z aY fun a f=>Ah f Z Z AJ fun a f=>Aa ?_
    rcases Ae aP with⟨aZ,aP⟩|⟨aZ,aP⟩
    ·refine Al f Z aZ ?_
     refine Am ?_
     refine Af (Aj (Ac ?_))
     refine Bn Tryz.underlying30 Z Tryz.sizeOf22 f Z fun a f=>AF 0 0 m Ba f Z Z Z Z fun a f=>Ab f Z fun a f=> ?_
     obtain⟨a0,a1,aP⟩:=bind_some aP
     refine Bf T22 f Z Z Z h0_0 a1 fun a2 a3 a a4 a5 f=>AG m AY f Z Z a4 fun a f=>Ab f Z fun a f=> ?_
     obtain⟨a6,a7,aP⟩:=bind_some aP
     refine Bf T42 f Z Z Z a5 a7 fun a8 a9 a ba bb f=> ?_
     subst bb
     refine AG m Pl2 f Z Z ba fun a f=>Ab f Z fun a f=>Ah f Z Z BV fun a f=>Aa ?_
     rcases Ae aP with⟨bc,aP⟩|⟨bc,aP⟩
     ·refine Al f Z bc ?_
      refine Ak ?_
      refine Ab f Z fun a f=>Ab f Z fun a f=>Bn Tryz.underlying30 Z Tryz.sizeOf22 f Z fun a f=>AF 0 0 m Ba f Z Z Z Z fun a f=>Ab f Z fun a f=> ?_
      obtain⟨bd,be,aP⟩:=bind_some aP
      refine Bf T22 f Z Z Z h0_0 be fun bf bg a bh bi f=>AG m AY f Z Z bh fun a f=>Ab f Z fun a f=> ?_
      obtain⟨bj,bk,aP⟩:=bind_some aP
      refine Bf T42 f Z Z Z bi bk fun bl bm a bn bo f=> ?_
      subst bo
      refine AG m Pl2 f Z Z bn fun a f=>A8 (R:=(RI .i64)) (xs:=([am,bj]:List Int)) (RI.one _) m T42 f Z Z Z (by decide) (All2.cons Z (All2.cons Z (All2.nil _))) fun bp bq w a m br f=> ?_
      obtain⟨bs,bt,m,bu⟩:=Ow.stamp (RI.mono _) br m
      have h0_0:=rd2 bt h0_0
      have bh:=At.mono bt bh
      have bi:=rd1 bt bi
      have bn:=At.mono bt bn
      have aS:=Ow.mono (RSl.mono (RI.mono _)) bt aS
      refine A8 (R:=(RSl (RI .i64))) (xs:=([([am,bj]:List Int)]:List (List Int))) (RSl.one _) m T22 f Z Z Z (by decide) (All2.cons bu (All2.nil _)) fun bv bw w a m bx f=> ?_
      obtain⟨bz,bA,aP⟩:=bind_some aP
      refine Bo (RSl.one _) 2 m aS Z T22 Z (by decide) f Z Z Z (Ow.src (j:=0) bx m Z) bA fun bB bC w a m bD f=>Ad f Z fun a f=>Aa (Ak ?_)
      refine Ab f Z fun a f=>Ah f Z Z Ar fun a f=>Ad f Z fun a f=>Aa ?_
      have m:=m.front 2 rfl
      have m:=m.front 2 rfl
      have m:=m.eraseAt 2
      obtain rfl:=sj aP
      exact⟨_,Z,_,_,Z,_,bC,bB,(gt aR bt),f.k Z,m,bD⟩
     ·refine Ai f Z bc ?_
      refine Am ?_
      refine Ak ?_
      refine Ab f Z fun a f=>Ah f Z Z Ar fun a f=>Ad f Z fun a f=>Aa ?_
      obtain rfl:=sj aP
      exact⟨_,Z,_,_,Z,_,aM,aN,aR,f.k Z,m,aS⟩
    ·refine Ai f Z aZ ?_
     refine Ax Z ?_
     obtain rfl:=sj aP
     obtain rfl:=aQ _ rfl
     exact⟨_,Z,_,aM,aN,aR,f.k Z,m,aS⟩
   ·rintro a w ⟨aE,rfl,aF,aG,aH,bE,f,m,bF⟩
    have h0_0:=rd2 bE h0_0
    refine Ak ?_
    refine Ab f Z fun a f=>Ah f Z Z Ar fun a f=>Ad f Z fun a f=>Aa ?_
    obtain rfl:=sj ar
    exact⟨_,Z,_,_,Z,_,aG,aH,(gt av (gt aA bE)),f.k Z,m,bF⟩
  ·refine Ai f Z aB ?_
   refine Ax Z ?_
   have m:=m.front 1 rfl
   have m:=m.eraseAt 1
   obtain rfl:=sj ar
   obtain rfl:=au _ rfl
   exact⟨_,Z,_,ao,ap,(gt av aA),f.k Z,m,aw⟩
 ·rintro a w ⟨ag,rfl,ah,ai,aj,bG,f,m,bH⟩
  refine Ac ?_
  refine Ab f Z fun a f=>Ad f Z fun a f=>Aa ?_
  refine Aq ?_
  obtain rfl:=sj hd
  exact⟨[ai],⟨f.get _ _ Z,trivial⟩,f.defers,_,[aj],bG,m,_,_,Z,Z,bH⟩
theorem Wk.v0 {W w:World}{G:GH}{H:List Itm}{v0:Value}{v1:Value}{x0:(List Int)}{x1:(List Int)}(m:Mem W G w (H))(h0:RSl (RI .i64) G v0 x0)(h1:RSl (RI .i64) G v1 x1){y:((List Int))}(hd:D.v0 x0 x1=some y):
  Calls Tryz.prog 44 #[v0,v1] w (Res W G H (fun G' Ho v=>∃r0:Value,∃i0:Itm,Ho=[i0]∧r0=v∧Ow (RI .i64) 2 G' i0 r0 y)):=by
 refine As (args:=[v0,v1]) (N:=28) [.tmp 4] Tryz.func44 Z Z (Nat.le_of_ble_eq_true Z) Z fun a f=> ?_
 unfold D.v0 at hd
 refine Ac ?_
 refine Ad f Z fun a f=>Aa (Ac ?_)
 refine A8 (R:=(RI .i64)) (xs:=([]:List Int)) (RI.one _) m T42 f Z Z Z (by decide) (All2.nil _) fun aa ab w a m ac f=>Ad f Z fun a f=>Aa (Af (Ac ?_))
 refine Ad f Z fun a f=>Aa ?_
 obtain⟨ad,ae,hd⟩:=bind_some hd
 refine AC (fun a w=>∃af:List Int,af=ad∧∃(ag:GH) (ah:Value) (ai:Itm),GLe G ag∧Fr a 28 [(5,ah)]∧Mem W ag w (ai::H)∧Ow (RI .i64) 2 ag ai ah af) ?_ ?_
 ·refine Aj ?_
  refine AA (fun aj a w=>∃ak:List Int,∃al:Int,(ak,al)=aj∧∃(am:GH) (an:Value) (ao:Itm),GLe G am∧Fr a 28 [(0,v0),(1,v1),(5,an),(6,(.int .i64 al))]∧Mem W am w (ao::H)∧Ow (RI .i64) 2 am ao an ak) ae ⟨_,_,Z,_,ab,aa,gr,f.k Z,m,ac⟩ ?_
  clear ae f m
  rintro aj ap aq ar a w ⟨ak,al,rfl,am,an,ao,au,f,m,av⟩
  have h0:=rd1 au h0
  have h1:=rd1 au h1
  refine Af (Ac ?_)
  refine Ab f Z fun a f=>Ab f Z fun a f=>AZ Tryz.underlying42 f Z Z h0 fun a f=>Ah f Z Z AJ fun a f=>Aa ?_
  rcases Ae aq with⟨aw,aq⟩|⟨aw,aq⟩
  ·refine Al f Z aw ?_
   refine Am ?_
   refine Af (Aj (Ac ?_))
   refine Ab f Z fun a f=>Ab f Z fun a f=>Ab f Z fun a f=> ?_
   obtain⟨ax,ay,aq⟩:=bind_some aq
   refine Bf T42 f Z Z Z h0 ay fun az aA a aB aC f=> ?_
   subst aC
   refine AG m Pl2 f Z Z aB fun a f=> ?_
   obtain⟨aD,aE,aq⟩:=bind_some aq
   refine Bi f Z Tryz.call70 (Wk.h m h1 aE) fun aF w aG m a f=> ?_
   have h0:=rd1 aG h0
   have h1:=rd1 aG h1
   have aB:=At.mono aG aB
   have av:=od1 aG av
   refine Aa ?_
   rcases Ae aq with⟨aH,aq⟩|⟨aH,aq⟩
   ·refine Al f Z aH ?_
    refine Ak ?_
    refine Ab f Z fun a f=>Ab f Z fun a f=>Ab f Z fun a f=> ?_
    obtain⟨aI,aJ,aq⟩:=bind_some aq
    refine Bf T42 f Z Z Z h0 aJ fun aK aL a aM aN f=> ?_
    subst aN
    refine AG m Pl2 f Z Z aM fun a f=>A8 (R:=(RI .i64)) (xs:=([aI]:List Int)) (RI.one _) m T42 f Z Z Z (by decide) (All2.cons Z (All2.nil _)) fun aO aP w a m aQ f=> ?_
    obtain⟨aR,aS,aq⟩:=bind_some aq
    refine Bo (RI.one _) 1 m av Z T42 Z (by decide) f Z Z Z (Ow.src (j:=0) aQ m Z) aS fun aT aU w a m aV f=>Ad f Z fun a f=>Aa (Ak ?_)
    refine Ab f Z fun a f=>Ah f Z Z Ar fun a f=>Ad f Z fun a f=>Aa ?_
    have m:=m.front 1 rfl
    have m:=m.eraseAt 1
    obtain rfl:=sj aq
    exact⟨_,Z,_,_,Z,_,aU,aT,(gt au aG),f.k Z,m,aV⟩
   ·refine Ai f Z aH ?_
    refine Am ?_
    refine Ak ?_
    refine Ab f Z fun a f=>Ah f Z Z Ar fun a f=>Ad f Z fun a f=>Aa ?_
    obtain rfl:=sj aq
    exact⟨_,Z,_,_,Z,_,an,ao,(gt au aG),f.k Z,m,av⟩
  ·refine Ai f Z aw ?_
   refine Ax Z ?_
   obtain rfl:=sj aq
   obtain rfl:=ar _ rfl
   exact⟨_,Z,_,an,ao,au,f.k Z,m,av⟩
 ·rintro a w ⟨af,rfl,ag,ah,ai,aW,f,m,aX⟩
  refine Ac ?_
  refine Ab f Z fun a f=>Ad f Z fun a f=>Aa ?_
  refine Aq ?_
  obtain rfl:=sj hd
  exact⟨[ah],⟨f.get _ _ Z,trivial⟩,f.defers,_,[ai],aW,m,_,_,Z,Z,aX⟩
theorem Wk.y {W w:World}{G:GH}{H:List Itm}{v0:Value}{v1:Value}{x0:(List Int)}{x1:(List Int)}(m:Mem W G w (H))(h0:RSl (RI .i64) G v0 x0)(h1:RSl (RI .i64) G v1 x1){y:Bool}(hd:D.y x0 x1=some y):
  Calls Tryz.prog 126 #[v0,v1] w (Res W G H (fun _ Ho v=>Ho=[]∧v=(.bool y))):=by
 refine As (args:=[v0,v1]) (N:=12) [.tmp 4] Tryz.func126 Z Z (Nat.le_of_ble_eq_true Z) Z fun a f=> ?_
 unfold D.y at hd
 refine Ac ?_
 refine Ad f Z fun a f=>Aa (Ac ?_)
 refine Ab f Z fun a f=>Ab f Z fun a f=> ?_
 obtain⟨aa,ab,hd⟩:=bind_some hd
 refine AK f Z Tryz.call44 (Wk.v0 m h0 h1 ab) fun ac ad ae w af m ag a f=> ?_
 obtain⟨ah,ai,rfl,rfl,aj⟩:=ag
 have h0:=rd1 af h0
 have h1:=rd1 af h1
 refine BB 0 m aj Z Tryz.underlying42 f Z Z fun a f=>Ab f Z fun a f=>AZ Tryz.underlying42 f Z Z h0 fun a f=>Ah f Z Z By fun a f=>Ad f Z fun a f=>Aa ?_
 refine Aq ?_
 have m:Mem W ad w H:=Mem.drop (H':=[ai]) m
 obtain rfl:=sj hd
 exact⟨[(.bool ((aa.length:Int)==(x0.length:Int)))],⟨f.get _ _ Z,trivial⟩,f.defers,_,[],af,m,Z,Z⟩
theorem Wk.t0 {W w:World}{G:GH}{H:List Itm}{v0_0:Value}{v0_1:Value}{v1:Value}{x0_0:(List (List Int))}{x0_1:(List (List Int))}{x1:(List Int)}(m:Mem W G w (H))(h0_0:RSl (RSl (RI .i64)) G v0_0 x0_0)(h0_1:RSl (RSl (RI .i64)) G v0_1 x0_1)(h1:RSl (RI .i64) G v1 x1){y:Bool}(hd:D.t0 x0_0 x0_1 x1=some y):
  Calls Tryz.prog 82 #[(.agg #[v0_0,v0_1]),v1] w (Res W G H (fun _ Ho v=>Ho=[]∧v=(.bool y))):=by
 refine As (args:=[(.agg #[v0_0,v0_1]),v1]) (N:=20) [.tmp 4] Tryz.func82 Z Z (Nat.le_of_ble_eq_true Z) Z fun a f=> ?_
 unfold D.t0 at hd
 refine Ac ?_
 refine Bw (cs:=[v0_0,v0_1]) m f Z Z Z fun aa w a m f=>Ad f Z fun a f=>Aa (Af (Ac ?_))
 refine Ad f Z fun a f=>Aa ?_
 obtain⟨ab,ac,hd⟩:=bind_some hd
 refine AC (fun a w=>∃q_35':Unit,ab= .inl q_35'∧∃(ad:GH),GLe G ad∧Fr a 20 []∧Mem W ad w (H)) ?_ ?_
 ·refine Aj ?_
  refine AA (fun ae a w=>∃af:Int,af=ae∧∃(ag:GH),GLe G ag∧Fr a 20 [(1,v1),(2,(.pointer (some ⟨aa,0,none⟩))),(5,(.int .i64 af))]∧Mem W ag w (Itm.box aa 27 [v0_0,v0_1]::H)) ac ⟨_,Z,_,gr,f.k Z,m⟩ ?_
  clear ac f m
  rintro ae ah ai aj a w ⟨af,rfl,ag,ak,f,m⟩
  have h1:=rd1 ak h1
  have h0_0:=rd2 ak h0_0
  have h0_1:=rd2 ak h0_1
  refine Af (Ac ?_)
  refine Ab f Z fun a f=>Bn Tryz.underlying27 Z Tryz.sizeOf22 f Z fun a f=>AF 0 0 m Ba f Z Z Z Z fun a f=>AZ Tryz.underlying22 f Z Z h0_0 fun a f=>Ah f Z Z AJ fun a f=>Aa ?_
  rcases Ae ai with⟨al,ai⟩|⟨al,ai⟩
  ·refine Al f Z al ?_
   refine Am ?_
   refine Af (Aj (Ac ?_))
   refine Ab f Z fun a f=>Bn Tryz.underlying27 Z Tryz.sizeOf22 f Z fun a f=>AF 0 0 m Ba f Z Z Z Z fun a f=>Ab f Z fun a f=> ?_
   obtain⟨am,an,ai⟩:=bind_some ai
   refine Bf T22 f Z Z Z h0_0 an fun ao ap a aq ar f=>AG m AY f Z Z aq fun a f=> ?_
   obtain⟨au,av,ai⟩:=bind_some ai
   refine Bi f Z Tryz.call126 (Wk.y m h1 ar av) fun aw w ax m a f=> ?_
   have h1:=rd1 ax h1
   have h0_0:=rd2 ax h0_0
   have aq:=At.mono ax aq
   have ar:=rd1 ax ar
   have h0_1:=rd2 ax h0_1
   refine Aa ?_
   rcases Ae ai with⟨ay,ai⟩|⟨ay,ai⟩
   ·refine Al f Z ay ?_
    refine Ac ?_
    refine Ad f Z fun a f=>Aa ?_
    refine Aq ?_
    have m:Mem W aw w H:=Mem.drop (H':=[Itm.box aa 27 [v0_0,v0_1]]) m
    obtain rfl:=sj ai
    obtain rfl:=aj _ rfl
    obtain rfl:=sj hd
    exact⟨[(.bool true)],⟨f.get _ _ Z,trivial⟩,f.defers,_,[],(gt ak ax),m,Z,Z⟩
   ·refine Ai f Z ay ?_
    refine Am ?_
    refine Ak ?_
    refine Ab f Z fun a f=>Ah f Z Z Ar fun a f=>Ad f Z fun a f=>Aa ?_
    obtain rfl:=sj ai
    exact⟨_,Z,_,Z,_,(gt ak ax),f.k Z,m⟩
  ·refine Ai f Z al ?_
   refine Ax Z ?_
   have m:Mem W ag w H:=Mem.drop (H':=[Itm.box aa 27 [v0_0,v0_1]]) m
   obtain rfl:=sj ai
   obtain rfl:=aj _ rfl
   exact⟨_,Z,_,ak,f.weak trivial,m⟩
 ·rintro a w ⟨_,rfl,ad,az,f,m⟩
  refine Ac ?_
  refine Ad f Z fun a f=>Aa ?_
  refine Aq ?_
  obtain rfl:=sj hd
  exact⟨[(.bool false)],⟨f.get _ _ Z,trivial⟩,f.defers,_,[],az,m,Z,Z⟩
theorem Wk.q0 {W w:World}{G:GH}{H:List Itm}{v0_0:Value}{v0_1:Value}{x0_0:(List (List Int))}{x0_1:(List (List Int))}{x1:Int}(m:Mem W G w (H))(h0_0:RSl (RSl (RI .i64)) G v0_0 x0_0)(h0_1:RSl (RSl (RI .i64)) G v0_1 x0_1){y:((List Int))}(hd:D.q0 x0_0 x0_1 x1=some y):
  Calls Tryz.prog 83 #[(.agg #[v0_0,v0_1]),(.int .i64 x1)] w (Res W G H (fun G' Ho v=>∃r0:Value,∃i0:Itm,Ho=[i0]∧r0=v∧Ow (RI .i64) 2 G' i0 r0 y)):=by
 refine As (args:=[(.agg #[v0_0,v0_1]),(.int .i64 x1)]) (N:=27) [.tmp 4] Tryz.func83 Z Z (Nat.le_of_ble_eq_true Z) Z fun a f=> ?_
 unfold D.q0 at hd
 refine Ac ?_
 refine Bw (cs:=[v0_0,v0_1]) m f Z Z Z fun aa w a m f=>Ad f Z fun a f=>Aa (Ac ?_)
 refine A8 (R:=(RI .i64)) (xs:=([]:List Int)) (RI.one _) m T42 f Z Z Z (by decide) (All2.nil _) fun ab ac w a m ad f=>Ad f Z fun a f=>Aa (Af (Ac ?_))
 refine Ad f Z fun a f=>Aa ?_
 obtain⟨ae,af,hd⟩:=bind_some hd
 refine AC (fun a w=>∃ag:List Int,ag=ae∧∃(ah:GH) (ai:Value) (aj:Itm),GLe G ah∧Fr a 27 [(5,ai)]∧Mem W ah w (aj::H)∧Ow (RI .i64) 2 ah aj ai ag) ?_ ?_
 ·refine Aj ?_
  have m:=m.front 1 rfl
  refine AA (fun ak a w=>∃al:List Int,∃am:Int,(al,am)=ak∧∃(an:GH) (ao:Value) (ap:Itm),GLe G an∧Fr a 27 [(1,(.int .i64 x1)),(2,(.pointer (some ⟨aa,0,none⟩))),(5,ao),(6,(.int .i64 am))]∧Mem W an w (Itm.box aa 27 [v0_0,v0_1]::ap::H)∧Ow (RI .i64) 2 an ap ao al) af ⟨_,_,Z,_,ac,ab,gr,f.k Z,m,ad⟩ ?_
  clear af f m
  rintro ak aq ar au a w ⟨al,am,rfl,an,ao,ap,av,f,m,aw⟩
  have h0_0:=rd2 av h0_0
  have h0_1:=rd2 av h0_1
  refine Af (Ac ?_)
  refine Ab f Z fun a f=>Bn Tryz.underlying27 Z Tryz.sizeOf22 f Z fun a f=>AF 0 0 m Ba f Z Z Z Z fun a f=>AZ Tryz.underlying22 f Z Z h0_0 fun a f=>Ah f Z Z AJ fun a f=>Aa ?_
  rcases Ae ar with⟨ax,ar⟩|⟨ax,ar⟩
  ·refine Al f Z ax ?_
   refine Am ?_
   refine Af (Aj (Ac ?_))
   refine Bn Tryz.underlying27 Z Tryz.sizeOf22 f Z fun a f=>AF 0 0 m Ba f Z Z Z Z fun a f=>Ab f Z fun a f=> ?_
   obtain⟨ay,az,ar⟩:=bind_some ar
   refine Bf T22 f Z Z Z h0_0 az fun aA aB a aC aD f=>AG m AY f Z Z aC fun a f=>Ab f Z fun a f=> ?_
   obtain⟨aE,aF,ar⟩:=bind_some ar
   refine Bi f Z Tryz.call70 (Wk.h m aD aF) fun aG w aH m a f=> ?_
   have h0_0:=rd2 aH h0_0
   have aC:=At.mono aH aC
   have aD:=rd1 aH aD
   have h0_1:=rd2 aH h0_1
   have aw:=od1 aH aw
   refine Aa ?_
   rcases Ae ar with⟨aI,ar⟩|⟨aI,ar⟩
   ·refine Al f Z aI ?_
    refine Ak ?_
    refine Ab f Z fun a f=>Ab f Z fun a f=>A8 (R:=(RI .i64)) (xs:=([am]:List Int)) (RI.one _) m T42 f Z Z Z (by decide) (All2.cons Z (All2.nil _)) fun aJ aK w a m aL f=> ?_
    obtain⟨aM,aN,ar⟩:=bind_some ar
    refine Bo (RI.one _) 2 m aw Z T42 Z (by decide) f Z Z Z (Ow.src (j:=0) aL m Z) aN fun aO aP w a m aQ f=>Ad f Z fun a f=>Aa (Ak ?_)
    refine Ab f Z fun a f=>Ah f Z Z Ar fun a f=>Ad f Z fun a f=>Aa ?_
    have m:=m.front 2 rfl
    have m:=m.front 2 rfl
    have m:=m.eraseAt 2
    obtain rfl:=sj ar
    exact⟨_,Z,_,_,Z,_,aP,aO,(gt av aH),f.k Z,m,aQ⟩
   ·refine Ai f Z aI ?_
    refine Am ?_
    refine Ak ?_
    refine Ab f Z fun a f=>Ah f Z Z Ar fun a f=>Ad f Z fun a f=>Aa ?_
    obtain rfl:=sj ar
    exact⟨_,Z,_,_,Z,_,ao,ap,(gt av aH),f.k Z,m,aw⟩
  ·refine Ai f Z ax ?_
   refine Ax Z ?_
   have m:=m.front 1 rfl
   have m:=m.eraseAt 1
   obtain rfl:=sj ar
   obtain rfl:=au _ rfl
   exact⟨_,Z,_,ao,ap,av,f.k Z,m,aw⟩
 ·rintro a w ⟨ag,rfl,ah,ai,aj,aR,f,m,aS⟩
  refine Ac ?_
  refine Ab f Z fun a f=>Ad f Z fun a f=>Aa ?_
  refine Aq ?_
  obtain rfl:=sj hd
  exact⟨[ai],⟨f.get _ _ Z,trivial⟩,f.defers,_,[aj],aR,m,_,_,Z,Z,aS⟩

end Go.Proofs.YtebbefpdncgoiaaGreatDoor

set_option maxRecDepth 100000
namespace Go.Proofs.YtebbefpdncgoiaaGreatDoor
open Go Go.Sx
theorem Wk.P {W w:World}{G:GH}{H:List Itm}{v0_0:Value}{v1_0:Value}{v1_1:Value}{x0_0:(List (List Int))}{x1_0:(List (List Int))}{x1_1:(List (List Int))}(m:Mem W G w (H))(h0_0:RSl (RSl (RI .i64)) G v0_0 x0_0)(h1_0:RSl (RSl (RI .i64)) G v1_0 x1_0)(h1_1:RSl (RSl (RI .i64)) G v1_1 x1_1){y:Bool}(hd:D.P x0_0 x1_0 x1_1=some y):
  Calls Tryz.prog 29 #[(.agg #[v0_0]),(.agg #[v1_0,v1_1])] w (Res W G H (fun _ Ho v=>Ho=[]∧v=(.bool y))):=by
 refine As (args:=[(.agg #[v0_0]),(.agg #[v1_0,v1_1])]) (N:=69) [.tmp 4] Tryz.func29 Z Z (Nat.le_of_ble_eq_true Z) Z fun a f=> ?_
 unfold D.P at hd
 refine Ac ?_
 refine Bw (cs:=[v0_0]) m f Z Z Z fun aa w a m f=>Bw (cs:=[v1_0,v1_1]) m f Z Z Z fun ab w a m f=>Ad f Z fun a f=>Aa (Af (Ac ?_))
 refine A5 1 0 (ds:=[v0_0]) m Bq f Z Z Z Z Z fun a f=> ?_
 obtain⟨ac,ad,hd⟩:=bind_some hd
 refine Bi f Z Tryz.call77 (Wk.W m h0_0 ad) fun ae w af m a f=> ?_
 have h0_0:=rd2 af h0_0
 have h1_0:=rd2 af h1_0
 have h1_1:=rd2 af h1_1
 refine l_o f (Bd (f.eval Z)) fun a f=>Ab f Z fun a f=> ?_
 obtain⟨ag,ah,hd⟩:=bind_some hd
 refine Bz 4 (fun a w=>∃ai,GLe ae ai∧Mem W ai w (Itm.box ab 27 [v1_0,v1_1]::Itm.box aa 30 [v0_0]::H)∧Fr a 69 [(0,(.agg #[v0_0])),(1,(.agg #[v1_0,v1_1])),(2,(.pointer (some ⟨aa,0,none⟩))),(3,(.pointer (some ⟨ab,0,none⟩))),(10,(.agg #[v0_0])),(11,(.bool ac)),(12,(.bool (!ac))),(13,(.bool (!ac))),(17,(.bool ag))]) ?_ ?_
 ·rcases Ae ah with⟨aj,ah⟩|⟨aj,ah⟩
  ·refine AE f aj fun a f=> ?_
   refine AE f aj fun a f=>AE f aj fun a f=>l_o f (AO (f.eval Z) aj (f.eval Z)) fun a f=> ?_
   obtain rfl:=sj ah
   exact⟨_,gr,m,f.k Z⟩
  ·refine AB f aj ?_
   refine A5 0 0 (ds:=[v1_0,v1_1]) m B5 f Z Z Z Z Z fun a f=>AB f aj ?_
   obtain⟨ak,al,ah⟩:=bind_some ah
   refine Bi f Z Tryz.call78 (Wk.s1 m h1_0 h1_1 al) fun am w an m a f=> ?_
   have h0_0:=rd2 an h0_0
   have h1_0:=rd2 an h1_0
   have h1_1:=rd2 an h1_1
   refine AB f aj ?_
   refine l_o f (Bd (f.eval Z)) fun a f=>l_o f (AP (f.eval Z) aj (f.eval Z)) fun a f=> ?_
   obtain rfl:=sj ah
   exact⟨_,an,m,f.k Z⟩
 ·rintro a w ⟨ai,ao,m,f⟩
  have h0_0:=rd2 ao h0_0
  have h1_0:=rd2 ao h1_0
  have h1_1:=rd2 ao h1_1
  refine Aa ?_
  rcases Ae hd with⟨ap,hd⟩|⟨ap,hd⟩
  ·refine Al f Z ap ?_
   refine Ac ?_
   refine Ad f Z fun a f=>Aa ?_
   refine Aq ?_
   have m:Mem W ai w H:=Mem.drop (H':=[Itm.box ab 27 [v1_0,v1_1],Itm.box aa 30 [v0_0]]) m
   obtain rfl:=sj hd
   exact⟨[(.bool false)],⟨f.get _ _ Z,trivial⟩,f.defers,_,[],(gt af ao),m,Z,Z⟩
  ·refine Ai f Z ap ?_
   refine Am ?_
   refine Af (Ac ?_)
   refine Ad f Z fun a f=>Aa ?_
   obtain⟨aq,ar,hd⟩:=bind_some hd
   refine AC (fun a w=>∃q_73':Unit,aq= .inl q_73'∧∃(au:GH),GLe ai au∧Fr a 69 [(2,(.pointer (some ⟨aa,0,none⟩))),(3,(.pointer (some ⟨ab,0,none⟩)))]∧Mem W au w (Itm.box aa 30 [v0_0]::Itm.box ab 27 [v1_0,v1_1]::H)) ?_ ?_
   ·refine Aj ?_
    have m:=m.front 1 rfl
    refine AA (fun av a w=>∃aw:Int,aw=av∧∃(ax:GH),GLe ai ax∧Fr a 69 [(2,(.pointer (some ⟨aa,0,none⟩))),(3,(.pointer (some ⟨ab,0,none⟩))),(5,(.int .i64 aw))]∧Mem W ax w (Itm.box aa 30 [v0_0]::Itm.box ab 27 [v1_0,v1_1]::H)) ar ⟨_,Z,_,gr,f.k Z,m⟩ ?_
    clear ar f m
    rintro av ay az aA a w ⟨aw,rfl,ax,aB,f,m⟩
    have h0_0:=rd2 aB h0_0
    have h1_0:=rd2 aB h1_0
    have h1_1:=rd2 aB h1_1
    refine Af (Ac ?_)
    refine Ab f Z fun a f=>Bn Tryz.underlying27 Z Tryz.sizeOf22 f Z fun a f=>AF 1 0 m Ba f Z Z Z Z fun a f=>AZ Tryz.underlying22 f Z Z h1_0 fun a f=>Ah f Z Z AJ fun a f=>Aa ?_
    rcases Ae az with⟨aC,az⟩|⟨aC,az⟩
    ·refine Al f Z aC ?_
     refine Am ?_
     refine Af (Aj (Af ?_))
     refine AT 9 Aw (by kernel_rfl) m ?_
     refine B3 0 9 Tryz.underlying27 Z Tryz.sizeOf22 Z f Z fun a f=>BO 1 9 1 Ba Z Z Z f Z fun a f=>Ag 2 9 Z f Z fun a f=> ?_
     obtain⟨aD,aE,az⟩:=bind_some az
     refine B2 3 9 T22 h1_0 aE Z f Z Z fun aF aG a aH aI f=>BZ 4 9 AY aH Z f Z fun a f=>Bt (i:=5) (ds:=[v0_0]) 9 0 Bq Z Z Z Z (by kernel_rfl) Z f Z Z Z fun a f=> ?_
     obtain⟨aJ,aK,az⟩:=bind_some az
     refine Bh (i:=6) 9 Z (by kernel_rfl) Z f Z Z Z Tryz.call80 (fun _ _ w aL m=>Wk.d m (rd2 aL h0_0) aK) fun a f=> ?_
     obtain⟨aM,aN,az⟩:=bind_some az
     refine Bh (i:=7) 9 Z (by kernel_rfl) Z f Z Z Z Tryz.call79 (fun _ _ w aO m=>Wk.q m (rd1 aO aI) aN) fun a f=>q_p 8 9 Z f (fun _=>Bd (f.eval Z)) fun a f=>AI fun aP w aQ m=> ?_
     have h1_0:=rd2 aQ h1_0
     have aH:=At.mono aQ aH
     have aI:=rd1 aQ aI
     have h0_0:=rd2 aQ h0_0
     have h1_1:=rd2 aQ h1_1
     refine Aa ?_
     rcases Ae az with⟨aR,az⟩|⟨aR,az⟩
     ·refine Al f Z aR ?_
      refine Ac ?_
      refine Ad f Z fun a f=>Aa ?_
      refine Aq ?_
      have m:Mem W aP w H:=Mem.drop (H':=[Itm.box aa 30 [v0_0],Itm.box ab 27 [v1_0,v1_1]]) m
      obtain rfl:=sj az
      obtain rfl:=aA _ rfl
      obtain rfl:=sj hd
      exact⟨[(.bool false)],⟨f.get _ _ Z,trivial⟩,f.defers,_,[],(gt af (gt ao (gt aB aQ))),m,Z,Z⟩
     ·refine Ai f Z aR ?_
      refine Am ?_
      refine Ak ?_
      refine Ab f Z fun a f=>Ah f Z Z Ar fun a f=>Ad f Z fun a f=>Aa ?_
      obtain rfl:=sj az
      exact⟨_,Z,_,Z,_,(gt aB aQ),f.k Z,m⟩
    ·refine Ai f Z aC ?_
     refine Ax Z ?_
     obtain rfl:=sj az
     obtain rfl:=aA _ rfl
     exact⟨_,Z,_,aB,f.k Z,m⟩
   ·rintro a w ⟨_,rfl,au,aS,f,m⟩
    have h0_0:=rd2 aS h0_0
    have h1_0:=rd2 aS h1_0
    have h1_1:=rd2 aS h1_1
    refine Ac ?_
    refine A5 0 0 (ds:=[v0_0]) m Bq f Z Z Z Z Z fun a f=> ?_
    obtain⟨aT,aU,hd⟩:=bind_some hd
    refine AK f Z Tryz.call81 (Wk.e0 m h0_0 aU) fun aV aW aX w aY m aZ a f=> ?_
    obtain⟨a0,a1,rfl,rfl,a2⟩:=aZ
    have h0_0:=rd2 aY h0_0
    have h1_0:=rd2 aY h1_0
    have h1_1:=rd2 aY h1_1
    refine Ad f Z fun a f=>Aa (Af (Ac ?_))
    refine Ad f Z fun a f=>Aa ?_
    obtain⟨a3,a4,hd⟩:=bind_some hd
    refine AC (fun a w=>∃q_155':Unit,a3= .inl q_155'∧∃(a5:GH),GLe aW a5∧Fr a 69 [(2,(.pointer (some ⟨aa,0,none⟩))),(3,(.pointer (some ⟨ab,0,none⟩)))]∧Mem W a5 w (Itm.box aa 30 [v0_0]::Itm.box ab 27 [v1_0,v1_1]::H)) ?_ ?_
    ·refine Aj ?_
     have m:=m.front 2 rfl
     have m:=m.front 2 rfl
     refine AA (fun a6 a w=>∃a7:Int,a7=a6∧∃(a8:GH),GLe aW a8∧Fr a 69 [(2,(.pointer (some ⟨aa,0,none⟩))),(3,(.pointer (some ⟨ab,0,none⟩))),(6,a0),(7,(.int .i64 a7))]∧Mem W a8 w (Itm.box aa 30 [v0_0]::Itm.box ab 27 [v1_0,v1_1]::a1::H)) a4 ⟨_,Z,_,gr,f.k Z,m⟩ ?_
     clear a4 f m
     rintro a6 a9 ba bb a w ⟨a7,rfl,a8,bc,f,m⟩
     have h0_0:=rd2 bc h0_0
     have h1_0:=rd2 bc h1_0
     have h1_1:=rd2 bc h1_1
     have a2:=Ow.mono (RSl.mono (RI.mono _)) bc a2
     refine Af (Ac ?_)
     refine Ab f Z fun a f=>Ab f Z fun a f=>BB 2 m a2 Z Tryz.underlying22 f Z Z fun a f=>Ah f Z Z AJ fun a f=>Aa ?_
     rcases Ae ba with⟨bd,ba⟩|⟨bd,ba⟩
     ·refine Al f Z bd ?_
      refine Am ?_
      refine Af (Aj (Af ?_))
      refine AT 7 Aw (by kernel_rfl) m ?_
      refine Bt (i:=0) (ds:=[v1_0,v1_1]) 7 1 B5 Z Z Z Z (by kernel_rfl) Z f Z Z Z fun a f=>Ag 1 7 Z f Z fun a f=>Ag 2 7 Z f Z fun a f=> ?_
      obtain⟨be,bf,ba⟩:=bind_some ba
      refine Az 3 7 2 m a2 T22 bf Z f Z Z fun bg a bh f=>AL 4 7 2 a2 AY bh bf Z f Z fun bi a bj f=> ?_
      obtain⟨bk,bl,ba⟩:=bind_some ba
      refine Bh (i:=5) 7 Z (by kernel_rfl) Z f Z Z Z Tryz.call82 (fun _ _ w bm m=>Wk.t0 m (rd2 bm h1_0) (rd2 bm h1_1) (rd1 bm bj) bl) fun a f=>q_p 6 7 Z f (fun _=>Bd (f.eval Z)) fun a f=>AI fun bn w bo m=> ?_
      have h1_0:=rd2 bo h1_0
      have h1_1:=rd2 bo h1_1
      have bj:=rd1 bo bj
      have h0_0:=rd2 bo h0_0
      have a2:=Ow.mono (RSl.mono (RI.mono _)) bo a2
      refine Aa ?_
      rcases Ae ba with⟨bp,ba⟩|⟨bp,ba⟩
      ·refine Al f Z bp ?_
       refine Ac ?_
       refine Ad f Z fun a f=>Aa ?_
       refine Aq ?_
       have m:Mem W bn w H:=Mem.drop (H':=[Itm.box aa 30 [v0_0],Itm.box ab 27 [v1_0,v1_1],a1]) m
       obtain rfl:=sj ba
       obtain rfl:=bb _ rfl
       obtain rfl:=sj hd
       exact⟨[(.bool false)],⟨f.get _ _ Z,trivial⟩,f.defers,_,[],(gt af (gt ao (gt aS (gt aY (gt bc bo))))),m,Z,Z⟩
      ·refine Ai f Z bp ?_
       refine Am ?_
       refine Ak ?_
       refine Ab f Z fun a f=>Ah f Z Z Ar fun a f=>Ad f Z fun a f=>Aa ?_
       obtain rfl:=sj ba
       exact⟨_,Z,_,Z,_,(gt bc bo),f.k Z,m⟩
     ·refine Ai f Z bd ?_
      refine Ax Z ?_
      have m:=m.eraseAt 2
      obtain rfl:=sj ba
      obtain rfl:=bb _ rfl
      exact⟨_,Z,_,bc,f.k Z,m⟩
    ·rintro a w ⟨_,rfl,a5,bq,f,m⟩
     have h0_0:=rd2 bq h0_0
     have h1_0:=rd2 bq h1_0
     have h1_1:=rd2 bq h1_1
     refine Af (Ac ?_)
     refine Ad f Z fun a f=>Aa ?_
     obtain⟨br,bs,hd⟩:=bind_some hd
     refine AC (fun a w=>∃q_304':Unit,br= .inl q_304'∧∃(bt:GH),GLe a5 bt∧Fr a 69 []∧Mem W bt w (H)) ?_ ?_
     ·refine Aj ?_
      refine AA (fun bu a w=>∃bv:Int,bv=bu∧∃(bw:GH),GLe a5 bw∧Fr a 69 [(2,(.pointer (some ⟨aa,0,none⟩))),(3,(.pointer (some ⟨ab,0,none⟩))),(8,(.int .i64 bv))]∧Mem W bw w (Itm.box aa 30 [v0_0]::Itm.box ab 27 [v1_0,v1_1]::H)) bs ⟨_,Z,_,gr,f.k Z,m⟩ ?_
      clear bs f m
      rintro bu bx bz bA a w ⟨bv,rfl,bw,bB,f,m⟩
      have h0_0:=rd2 bB h0_0
      have h1_0:=rd2 bB h1_0
      have h1_1:=rd2 bB h1_1
      refine Af (Ac ?_)
      refine Ab f Z fun a f=>A5 0 0 (ds:=[v0_0]) m Bq f Z Z Z Z Z fun a f=> ?_
      obtain⟨bC,bD,bz⟩:=bind_some bz
      refine Bi f Z Tryz.call80 (Wk.d m h0_0 bD) fun bE w bF m a f=> ?_
      have h0_0:=rd2 bF h0_0
      have h1_0:=rd2 bF h1_0
      have h1_1:=rd2 bF h1_1
      refine Ah f Z Z AJ fun a f=>Aa ?_
      rcases Ae bz with⟨bG,bz⟩|⟨bG,bz⟩
      ·refine Al f Z bG ?_
       refine Am ?_
       refine Af (Aj (Ac ?_))
       refine A5 1 0 (ds:=[v1_0,v1_1]) m B5 f Z Z Z Z Z fun a f=>Ab f Z fun a f=> ?_
       obtain⟨bH,bI,bz⟩:=bind_some bz
       refine AK f Z Tryz.call83 (Wk.q0 m h1_0 h1_1 bI) fun bJ bK bL w bM m bN a f=> ?_
       obtain⟨bO,bP,rfl,rfl,bQ⟩:=bN
       have h1_0:=rd2 bM h1_0
       have h1_1:=rd2 bM h1_1
       have h0_0:=rd2 bM h0_0
       refine Ad f Z fun a f=>Aa (Ac ?_)
       refine Ab f Z fun a f=>BB 0 m bQ Z Tryz.underlying42 f Z Z fun a f=>Ah f Z Z By fun a f=>Ab f Z fun a f=> ?_
       obtain⟨bR,bS,bz⟩:=bind_some bz
       refine Bz 7 (fun a w=>∃bT,GLe bK bT∧Mem W bT w (bP::Itm.box aa 30 [v0_0]::Itm.box ab 27 [v1_0,v1_1]::H)∧Fr a 69 [(2,(.pointer (some ⟨aa,0,none⟩))),(3,(.pointer (some ⟨ab,0,none⟩))),(8,(.int .i64 bv)),(9,bO),(58,bO),(59,(.int .i64 (bH.length:Int))),(60,(.bool ((bH.length:Int)==0))),(61,(.bool ((bH.length:Int)==0))),(68,(.bool bR))]) ?_ ?_
       ·rcases Ae bS with⟨bU,bS⟩|⟨bU,bS⟩
        ·refine AE f bU fun a f=> ?_
         refine AE f bU fun a f=>AE f bU fun a f=>AE f bU fun a f=>AE f bU fun a f=>AE f bU fun a f=>l_o f (AO (f.eval Z) bU (f.eval Z)) fun a f=> ?_
         obtain rfl:=sj bS
         exact⟨_,gr,m,f.k Z⟩
        ·refine AB f bU ?_
         refine A5 2 0 (ds:=[v1_0,v1_1]) m B5 f Z Z Z Z Z fun a f=>AB f bU ?_
         refine Ab f Z fun a f=>AB f bU ?_
         obtain⟨bV,bW,bS⟩:=bind_some bS
         refine AK f Z Tryz.call84 (Ow.lendCall (RI.mono _) 0 bQ m Z (fun bX bY m bZ=>Wk.A m (rd2 bY h1_0) (rd2 bY h1_1) bZ bW) (fun _ _ _ _ h=>h)) fun b0 b1 b2 w b3 m b4 a f=> ?_
         obtain⟨rfl,rfl⟩:=b4
         have h1_0:=rd2 b3 h1_0
         have h1_1:=rd2 b3 h1_1
         have bQ:=od1 b3 bQ
         have h0_0:=rd2 b3 h0_0
         refine AB f bU ?_
         refine Ab f Z fun a f=>AB f bU ?_
         refine BB 0 m bQ Z Tryz.underlying42 f Z Z fun a f=>AB f bU ?_
         refine Ah f Z Z CI fun a f=>l_o f (AP (f.eval Z) bU (f.eval Z)) fun a f=> ?_
         obtain rfl:=sj bS
         exact⟨_,b3,m,f.k Z⟩
       ·rintro a w ⟨bT,b5,m,f⟩
        have bQ:=od1 b5 bQ
        have h0_0:=rd2 b5 h0_0
        have h1_0:=rd2 b5 h1_0
        have h1_1:=rd2 b5 h1_1
        refine Aa ?_
        rcases Ae bz with⟨b6,bz⟩|⟨b6,bz⟩
        ·refine Al f Z b6 ?_
         refine Ac ?_
         refine Ad f Z fun a f=>Aa ?_
         refine Aq ?_
         have m:Mem W bT w H:=Mem.drop (H':=[bP,Itm.box aa 30 [v0_0],Itm.box ab 27 [v1_0,v1_1]]) m
         obtain rfl:=sj bz
         obtain rfl:=bA _ rfl
         obtain rfl:=sj hd
         exact⟨[(.bool false)],⟨f.get _ _ Z,trivial⟩,f.defers,_,[],(gt af (gt ao (gt aS (gt aY (gt bq (gt bB (gt bF (gt bM b5)))))))),m,Z,Z⟩
        ·refine Ai f Z b6 ?_
         refine Am ?_
         refine Ak ?_
         refine Ab f Z fun a f=>Ah f Z Z Ar fun a f=>Ad f Z fun a f=>Aa ?_
         have m:=m.front 2 rfl
         have m:=m.front 2 rfl
         have m:=m.eraseAt 2
         obtain rfl:=sj bz
         exact⟨_,Z,_,Z,_,(gt bB (gt bF (gt bM b5))),f.k Z,m⟩
      ·refine Ai f Z bG ?_
       refine Ax Z ?_
       have m:Mem W bE w H:=Mem.drop (H':=[Itm.box aa 30 [v0_0],Itm.box ab 27 [v1_0,v1_1]]) m
       obtain rfl:=sj bz
       obtain rfl:=bA _ rfl
       exact⟨_,Z,_,(gt bB bF),f.weak trivial,m⟩
     ·rintro a w ⟨_,rfl,bt,b7,f,m⟩
      refine Ac ?_
      refine Ad f Z fun a f=>Aa ?_
      refine Aq ?_
      obtain rfl:=sj hd
      exact⟨[(.bool true)],⟨f.get _ _ Z,trivial⟩,f.defers,_,[],(gt af (gt ao (gt aS (gt aY (gt bq b7))))),m,Z,Z⟩

end Go.Proofs.YtebbefpdncgoiaaGreatDoor
