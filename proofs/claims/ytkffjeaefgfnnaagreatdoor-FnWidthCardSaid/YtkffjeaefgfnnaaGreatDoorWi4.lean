/- Parts of the proof: WDW, WDW. -/
import Derived.Test.YtkffjeaefgfnnaaGreatDoorWi3
import Derived.Test.YtkffjeaefgfnnaaGreatDoorProg
import Derived.KernelRfl
set_option linter.unusedVariables false
set_option linter.unusedSimpArgs false
set_option linter.unusedSectionVars false
set_option maxRecDepth 100000
namespace Go.Proofs.YtkffjeaefgfnnaaGreatDoor
open Go Go.Sx
theorem Dq :Agg Tryz.prog 36 2:=⟨Tryz.isAgg36,Tryz.sizeOf36⟩
theorem T71 :SlT Tryz.prog 71 4 1 1 (.bool false):=⟨Tryz.underlying71,Tryz.t4,by kernel_rfl,by kernel_rfl,by kernel_rfl,by kernel_rfl⟩
theorem Pl4 :BV Tryz.prog 4:=Tryz.isAgg4
theorem Wk.K {W w:World}{G:GH}{H:List Itm}{v0:Value}{x0:(List Int)}(m:Mem W G w (H))(h0:RSl (RI .i64) G v0 x0){y:((List Int))}(hd:D.K x0=some y):
  Calls Tryz.prog 35 #[v0] w (Res W G H (fun G' Ho v=>∃r0:Value,∃i0:Itm,Ho=[i0]∧r0=v∧Ow (RI .i64) 2 G' i0 r0 y)):=by
 refine Ar (args:=[v0]) (N:=21) [.tmp 2] Tryz.func35 Z Z (Nat.le_of_ble_eq_true Z) Z fun a f=> ?_
 unfold D.K at hd
 refine Ac ?_
 refine Ad f Z fun a f=>Aa (Ac ?_)
 refine Ab f Z fun a f=>AX Tryz.underlying67 f Z Z h0 fun a f=> ?_
 obtain⟨aa,ab,hd⟩:=bind_some hd
 refine CT (R:=(RI .i64)) m T31 Z (by decide) Z f Z Z Z ab fun ac ad w a m ae f=>Ad f Z fun a f=>Aa (Af (Ac ?_))
 refine Ab f Z fun a f=>AX Tryz.underlying67 f Z Z h0 fun a f=>Ab f Z fun a f=>Aa ?_
 obtain⟨af,ag,hd⟩:=bind_some hd
 refine AE (fun a w=>∃ah:List Int,ah=af∧∃(ai:GH) (aj:Value) (ak:Itm),GLe G ai∧Fr a 21 [(3,aj)]∧Mem W ai w (ak::H)∧Ow (RI .i64) 2 ai ak aj ah) ?_ ?_
 ·refine Ai ?_
  refine AB (fun al a w=>∃am:List Int,∃an:Int,(am,an)=al∧∃(ao:GH) (ap:Value) (aq:Itm),GLe G ao∧Fr a 21 [(3,ap),(9,v0),(10,(.int .i64 (x0.length:Int))),(11,(.int .i64 an))]∧Mem W ao w (aq::H)∧Ow (RI .i64) 2 ao aq ap am) ag ⟨_,_,Z,_,ad,ac,gr,f.k Z,m,ae⟩ ?_
  clear ag f m
  rintro al ar au av a w ⟨am,an,rfl,ao,ap,aq,aw,f,m,ax⟩
  have h0:=rd1 aw h0
  refine Ac ?_
  refine Ag f Z Z AD fun a f=>Aa (Af ?_)
  rcases Ae au with⟨ay,au⟩|⟨ay,au⟩
  ·refine Am f Z ay ?_
   refine An ?_
   refine Af (Ai (Ac ?_))
   obtain⟨az,aA,au⟩:=bind_some au
   refine Bb T67 f Z Z Z h0 aA fun aB aC a aD aE f=> ?_
   subst aE
   refine Az m Pl3 f Z Z aD fun a f=>Ad f Z fun a f=>Aa (Aj ?_)
   refine Ab f Z fun a f=>Ab f Z fun a f=>A5 (R:=(RI .i64)) (xs:=([az]:List Int)) (RI.one _) m T31 f Z Z Z (by decide) (All2.cons Z (All2.nil _)) fun aF aG w a m aH f=> ?_
   obtain⟨aI,aJ,au⟩:=bind_some au
   refine Bj (RI.one _) 1 m ax Z T31 Z (by decide) f Z Z Z (Ow.src (j:=0) aH m Z) aJ fun aK aL w a m aM f=>Ad f Z fun a f=>Aa (Aj ?_)
   refine Ag f Z Z As fun a f=>Ab f Z fun a f=>Aa ?_
   have m:=m.front 1 rfl
   have m:=m.eraseAt 1
   obtain rfl:=sj au
   exact⟨_,Z,_,_,Z,_,aL,aK,aw,f.k Z,m,aM⟩
  ·refine Ah f Z ay ?_
   refine Ax Z ?_
   obtain rfl:=sj au
   obtain rfl:=av _ rfl
   exact⟨_,Z,_,ap,aq,aw,f.k Z,m,ax⟩
 ·rintro a w ⟨ah,rfl,ai,aj,ak,aN,f,m,aO⟩
  refine Ac ?_
  refine Ab f Z fun a f=>Ad f Z fun a f=>Aa ?_
  refine Ap ?_
  obtain rfl:=sj hd
  exact⟨[aj],⟨f.get _ _ Z,trivial⟩,f.defers,_,[ak],aN,m,_,_,Z,Z,aO⟩
theorem Wk.G0 {W w:World}{G:GH}{H:List Itm}{v0_0:Value}{x0_0:(List (List Int))}(hW:Cs W)(m:Mem W G w (H))(h0_0:RSl (RSl (RI .i64)) G v0_0 x0_0){y:((List Int))}(hd:D.G0 x0_0=some y):
  Calls Tryz.prog 10 #[(.agg #[v0_0])] w (Res W G H (fun G' Ho v=>∃r0:Value,∃i0:Itm,Ho=[i0]∧r0=v∧Ow (RI .i64) 2 G' i0 r0 y)):=by
 refine Ar (args:=[(.agg #[v0_0])]) (N:=10) [.tmp 2] Tryz.func10 Z Z (Nat.le_of_ble_eq_true Z) Z fun a f=> ?_
 unfold D.G0 at hd
 refine Ac ?_
 refine Bn (cs:=[v0_0]) m f Z Z Z fun aa w a m f=>Ad f Z fun a f=>Aa (Af (Ac ?_))
 refine AA 0 0 (ds:=[v0_0]) m AW f Z Z Z Z Z fun a f=> ?_
 obtain⟨ab,ac,hd⟩:=bind_some hd
 refine AY f Z Tryz.call31 (Wk.t m h0_0 ac) fun ad w ae m a f=> ?_
 have h0_0:=rd2 ae h0_0
 refine l_o f (Bp (f.eval Z)) fun a f=>Aa ?_
 rcases Ae hd with⟨af,hd⟩|⟨af,hd⟩
 ·refine Am f Z af ?_
  refine Ac ?_
  refine Ad f Z fun a f=>Aa ?_
  refine Ap ?_
  obtain⟨ag,m,ah⟩:=Ow.nil (RI .i64) 2 m
  have m:=m.eraseAt 1
  obtain rfl:=sj hd
  exact⟨[(.slice none 0 0)],⟨f.get _ _ Z,trivial⟩,f.defers,_,[ag],ae,m,_,_,Z,Z,ah⟩
 ·refine Ah f Z af ?_
  refine An ?_
  refine Ac ?_
  refine AA 0 0 (ds:=[v0_0]) m AW f Z Z Z Z Z fun a f=> ?_
  obtain⟨ai,aj,hd⟩:=bind_some hd
  refine AF f Z Tryz.call33 (Wk.r m h0_0 aj) fun ak al am w an m ao a f=> ?_
  obtain⟨ap,aq,rfl,rfl,ar⟩:=ao
  have h0_0:=rd2 an h0_0
  obtain⟨au,av,hd⟩:=bind_some hd
  refine AF f Z Tryz.call36 (Ow.lendCall (RI.mono _) 0 ar m Z (fun aw ax m ay=>Wk.T hW m ay av) (fun _ G' _ _ ⟨r0,i0,h1,h2,h3⟩=>⟨r0,i0,h1,h2,Ow.free (RI.free _) G' h3⟩)) fun az aA aB w aC m aD a f=> ?_
  obtain⟨aE,aF,rfl,rfl,aG⟩:=aD
  have h0_0:=rd2 aC h0_0
  have ar:=od1 aC ar
  obtain⟨aH,aI,hd⟩:=bind_some hd
  refine AF f Z Tryz.call35 (Ow.lendCall (RI.mono _) 0 aG m Z (fun aJ aK m aL=>Wk.K m aL aI) (fun _ G' _ _ ⟨a0,a1,e1,e2,o0⟩=>⟨a0,a1,e1,e2,Ow.free (RI.free _) G' o0⟩)) fun aM aN aO w aP m aQ a f=> ?_
  obtain⟨aR,aS,rfl,rfl,aT⟩:=aQ
  have h0_0:=rd2 aP h0_0
  have aG:=od1 aP aG
  have ar:=od1 aP ar
  refine Ad f Z fun a f=>Aa ?_
  refine Ap ?_
  have m:=m.eraseAt 3
  have m:=m.eraseAt 2
  have m:=m.eraseAt 1
  obtain rfl:=sj hd
  exact⟨[aR],⟨f.get _ _ Z,trivial⟩,f.defers,_,[aS],(gt ae (gt an (gt aC aP))),m,_,_,Z,Z,aT⟩
theorem Wk.z {W w:World}{G:GH}{H:List Itm}{v0:Value}{v1:Value}{x0:(List Int)}{x1:(List Int)}(hW:Cs W)(m:Mem W G w (H))(h0:RSl (RI .u32) G v0 x0)(h1:RSl (RI .i64) G v1 x1){y:((List Int))×((List Int))}(hd:D.z x0 x1=some y):
  Calls Tryz.prog 80 #[v0,v1] w (Res W G H (fun G' Ho v=>∃r0:Value,∃i0:Itm,∃r2:Value,∃i2:Itm,Ho=[i0,i2]∧v= .tuple #[r0,r2]∧Ow (RI .u32) 65 G' i0 r0 y.1∧Ow (RI .u32) 65 G' i2 r2 y.2)):=by
 refine Ar (args:=[v0,v1]) (N:=67) [.tmp 4,.tmp 5] Tryz.func80 Z Z (Nat.le_of_ble_eq_true Z) Z fun a f=> ?_
 unfold D.z at hd
 refine Ac ?_
 refine Ad f Z fun a f=>Ad f Z fun a f=>Aa (Af ?_)
 obtain⟨aa,ab,hd⟩:=bind_some hd
 refine AE (fun a w=>∃ac:List Int,∃ad:List Int,∃ae:Int,(ac,ad,ae)=aa∧∃(af:GH) (ag:Value) (ah:Itm) (ai:Value) (aj:Itm),GLe G af∧Fr a 67 [(1,v1),(6,ag),(7,ai),(8,(.int .u32 ae))]∧Mem W af w (ah::aj::H)∧Ow (RI .u32) 65 af ah ag ac∧Ow (RI .u32) 65 af aj ai ad) ?_ ?_
 ·refine A7 9 AJ (by kernel_rfl) m ?_
  refine Ak 1 9 Z f Z fun a f=>Ak 3 9 Z f Z fun a f=>q_len (i:=4) 9 Tryz.underlying61 h0 Z (by kernel_rfl) Z f Z Z Z fun a f=>Ak 6 9 Z f Z fun a f=>q_two (i:=0) (j:=5) (l1:= #[true,true,false,true,true,false,true,false,false,false,false]) (l2:= #[false,true,false,true,true,true,true,false,false,false,false]) Z Z (by kernel_rfl) Z Z ?_ ?_
  ·intro ak w al m am am
   have h0:=rd1 al h0
   have h1:=rd1 al h1
   refine A5 (R:=(RI .u32)) (xs:=([]:List Int)) (RI.one _) m T61 f Z Z Z (by decide) (All2.nil _) fun an ao w a m ap f=>Aa ?_
   refine am ak [an] _ _ gr m ?_
   refine q_two (i:=2) (j:=5) (l1:= #[true,true,true,true,true,false,true,false,false,false,false]) (l2:= #[true,true,false,true,true,true,true,false,false,false,false]) Z Z (by kernel_rfl) Z Z ?_ ?_
   ·intro aq w ar m au au
    have h0:=rd1 ar h0
    have h1:=rd1 ar h1
    have ap:=od1 ar ap
    obtain⟨av,aw,ab⟩:=bind_some ab
    refine Bj (RI.one _) 0 m ap Z T61 Z (by decide) f Z Z Z (h0.src m) aw fun ax ay w a m az f=>Aa ?_
    refine au aq [ax] _ _ gr m ?_
    obtain⟨aA,aB,ab⟩:=bind_some ab
    refine Ca (i:=7) 9 Z (by kernel_rfl) Z f Z Z Z Tryz.call71 (fun _ _ w aC m=>Wk.n m (rd1 aC h0) aB) fun a f=>q_p 8 9 Z f (fun _=>BD (f.eval Z)) fun a f=>BJ (i:=5) Z (by kernel_rfl) Z fun aD w aE m aF aF=> ?_
    have h0:=rd1 aE h0
    have h1:=rd1 aE h1
    have az:=od1 aE az
    obtain⟨aG,aH,ab⟩:=bind_some ab
    refine CT (R:=(RI .u32)) m T61 Z (by decide) Z f Z Z Z aH fun aI aJ w a m aK f=>Aa ?_
    refine aF aD [aI,ax] _ _ gr m ?_
    refine AV fun aL w aM m=> ?_
    have h0:=rd1 aM h0
    have h1:=rd1 aM h1
    have aK:=od1 aM aK
    have az:=od1 aM az
    refine Ad f Z fun a f=>Ad f Z fun a f=>Aa ?_
    have m:=m.front 1 rfl
    obtain rfl:=sj ab
    exact⟨_,_,_,Z,_,ay,ax,aJ,aI,(gt al (gt ar (gt aE aM))),f.k Z,m,az,aK⟩
   ·intro aD w aE m aF aF
    obtain⟨av,aw,ab⟩:=bind_some ab
    obtain⟨aA,aB,ab⟩:=bind_some ab
    obtain⟨aG,aH,ab⟩:=bind_some ab
    have h0:=rd1 aE h0
    have h1:=rd1 aE h1
    have ap:=od1 aE ap
    refine CT (R:=(RI .u32)) m T61 Z (by decide) Z f Z Z Z aH fun aI aJ w a m aK f=>Aa ?_
    refine aF aD [aI,an] _ _ gr m ?_
    refine BJ (i:=2) Z (by kernel_rfl) Z fun aq w ar m au au=> ?_
    have h0:=rd1 ar h0
    have h1:=rd1 ar h1
    have aK:=od1 ar aK
    have ap:=od1 ar ap
    refine Bj (RI.one _) 1 m ap Z T61 Z (by decide) f Z Z Z (h0.src m) aw fun ax ay w a m az f=>Aa ?_
    refine au aq [aI,ax] _ _ gr m ?_
    refine Ca (i:=7) 9 Z (by kernel_rfl) Z f Z Z Z Tryz.call71 (fun _ _ w aC m=>Wk.n m (rd1 aC h0) aB) fun a f=>q_p 8 9 Z f (fun _=>BD (f.eval Z)) fun a f=>AV fun aL w aM m=> ?_
    have h0:=rd1 aM h0
    have h1:=rd1 aM h1
    have aK:=od1 aM aK
    have az:=od1 aM az
    refine Ad f Z fun a f=>Ad f Z fun a f=>Aa ?_
    have m:=m.front 1 rfl
    obtain rfl:=sj ab
    exact⟨_,_,_,Z,_,ay,ax,aJ,aI,(gt al (gt aE (gt ar aM))),f.k Z,m,az,aK⟩
  ·intro aD w aE m aF aF
   obtain⟨av,aw,ab⟩:=bind_some ab
   obtain⟨aA,aB,ab⟩:=bind_some ab
   obtain⟨aG,aH,ab⟩:=bind_some ab
   have h0:=rd1 aE h0
   have h1:=rd1 aE h1
   refine CT (R:=(RI .u32)) m T61 Z (by decide) Z f Z Z Z aH fun aI aJ w a m aK f=>Aa ?_
   refine aF aD [aI] _ _ gr m ?_
   refine BJ (i:=0) Z (by kernel_rfl) Z fun ak w al m am am=> ?_
   have h0:=rd1 al h0
   have h1:=rd1 al h1
   have aK:=od1 al aK
   refine A5 (R:=(RI .u32)) (xs:=([]:List Int)) (RI.one _) m T61 f Z Z Z (by decide) (All2.nil _) fun an ao w a m ap f=>Aa ?_
   refine am ak [an,aI] _ _ gr m ?_
   refine BJ (i:=2) Z (by kernel_rfl) Z fun aq w ar m au au=> ?_
   have h0:=rd1 ar h0
   have h1:=rd1 ar h1
   have ap:=od1 ar ap
   have aK:=od1 ar aK
   refine Bj (RI.one _) 0 m ap Z T61 Z (by decide) f Z Z Z (h0.src m) aw fun ax ay w a m az f=>Aa ?_
   refine au aq [ax,aI] _ _ gr m ?_
   refine Ca (i:=7) 9 Z (by kernel_rfl) Z f Z Z Z Tryz.call71 (fun _ _ w aC m=>Wk.n m (rd1 aC h0) aB) fun a f=>q_p 8 9 Z f (fun _=>BD (f.eval Z)) fun a f=>AV fun aL w aM m=> ?_
   have h0:=rd1 aM h0
   have h1:=rd1 aM h1
   have az:=od1 aM az
   have aK:=od1 aM aK
   refine Ad f Z fun a f=>Ad f Z fun a f=>Aa ?_
   obtain rfl:=sj ab
   exact⟨_,_,_,Z,_,ay,ax,aJ,aI,(gt aE (gt al (gt ar aM))),f.k Z,m,az,aK⟩
 ·rintro a w ⟨ac,ad,ae,rfl,af,ag,ah,ai,aj,aN,f,m,aO,aP⟩
  have h1:=rd1 aN h1
  refine Af (Ac ?_)
  refine Ab f Z fun a f=>AX Tryz.underlying67 f Z Z h1 fun a f=>Ab f Z fun a f=>Aa ?_
  obtain⟨aQ,aR,hd⟩:=bind_some hd
  refine AE (fun a w=>∃aS:List Int,∃aT:List Int,(aS,aT)=aQ∧∃(aU:GH) (aV:Itm) (aW:Itm),GLe af aU∧Fr a 67 [(6,ag),(7,ai)]∧Mem W aU w (aV::aW::H)∧Ow (RI .u32) 65 aU aV ag aS∧Ow (RI .u32) 65 aU aW ai aT) ?_ ?_
  ·refine Ai ?_
   refine AB (fun aX a w=>∃aY:List Int,∃aZ:List Int,∃a0:Int,∃a1:Int,(aY,aZ,a0,a1)=aX∧∃(a2:GH) (a3:Itm) (a4:Itm),GLe af a2∧Fr a 67 [(6,ag),(7,ai),(8,(.int .u32 a0)),(21,v1),(22,(.int .i64 (x1.length:Int))),(23,(.int .i64 a1))]∧Mem W a2 w (a3::a4::H)∧Ow (RI .u32) 65 a2 a3 ag aY∧Ow (RI .u32) 65 a2 a4 ai aZ) aR ⟨_,_,_,_,Z,_,ah,aj,gr,f.k Z,m,aO,aP⟩ ?_
   clear aR f m
   rintro aX a5 a6 a7 a w ⟨aY,aZ,a0,a1,rfl,a2,a3,a4,a8,f,m,a9,ba⟩
   have h1:=rd1 a8 h1
   refine Ac ?_
   refine Ag f Z Z AD fun a f=>Aa (Af ?_)
   rcases Ae a6 with⟨bb,a6⟩|⟨bb,a6⟩
   ·refine Am f Z bb ?_
    refine An ?_
    refine Af (Ai (Ac ?_))
    obtain⟨bc,bd,a6⟩:=bind_some a6
    refine Bb T67 f Z Z Z h1 bd fun be bf a bg bh f=> ?_
    subst bh
    refine Az m Pl3 f Z Z bg fun a f=>Ad f Z fun a f=>Aa (Ac ?_)
    refine Ab f Z fun a f=>Ab f Z fun a f=> ?_
    obtain⟨bi,bj,a6⟩:=bind_some a6
    refine AY f Z Tryz.call56 (Wk.d m bj) fun bk w bl m a f=> ?_
    have h1:=rd1 bl h1
    have a9:=od1 bl a9
    have ba:=od1 bl ba
    refine Ag f Z Z CZ fun a f=>Ad f Z fun a f=>Aa (Ac ?_)
    refine Ab f Z fun a f=>Ab f Z fun a f=>Ab f Z fun a f=>Ab f Z fun a f=> ?_
    obtain⟨bm,bn,a6⟩:=bind_some a6
    refine AQ 0 m a9 Z T61 f Z Z Z bn fun bo a bp f=>Br 0 m a9 Z DN f Z Z bp bn fun bq a br f=> ?_
    subst br
    refine Ab f Z fun a f=>Ag f Z Z D8 fun a f=> ?_
    obtain⟨bs,bt,a6⟩:=bind_some a6
    refine AQ 1 m ba Z T61 f Z Z Z bt fun bu a bv f=>AC 1 m ba Z Tryz.sizeOf65 f Z Z bv bt Z Z Z fun bw w m bx=>Aa (Ac ?_)
    refine Ab f Z fun a f=>Ab f Z fun a f=> ?_
    obtain⟨bz,bA,a6⟩:=bind_some a6
    refine AQ 1 m bx Z T61 f Z Z Z bA fun bB a bC f=>Br 1 m bx Z DN f Z Z bC bA fun bD a bE f=> ?_
    subst bE
    obtain⟨bF,bG,a6⟩:=bind_some a6
    refine AF f Z Tryz.call72 (Wk.k hW m bG) fun bH bI bJ w bK m bL a f=> ?_
    obtain⟨bM,bN,rfl,rfl,bO⟩:=bL
    have h1:=rd1 bK h1
    have a9:=od1 bK a9
    have bx:=od1 bK bx
    refine Bl 0 m bO Z Tryz.underlying67 f Z Z fun a f=>Ab f Z fun a f=>Aa ?_
    obtain⟨bP,bQ,a6⟩:=bind_some a6
    refine AE (fun a w=>∃bR:List Int,bR=bP∧∃(bS:GH) (bT:Itm),GLe bI bS∧Fr a 67 [(6,ag),(7,ai),(8,(.int .u32 (iandNot .u32 a0 bi))),(21,v1),(22,(.int .i64 (x1.length:Int))),(23,(.int .i64 a1))]∧Mem W bS w (bT::bw::H)∧Ow (RI .u32) 65 bS bT ag bR) ?_ ?_
    ·refine Ai ?_
     have m:=m.front 2 rfl
     have m:=m.front 2 rfl
     refine AB (fun bU a w=>∃bV:List Int,∃bW:Int,(bV,bW)=bU∧∃(bX:GH) (bY:Itm),GLe bI bX∧Fr a 67 [(6,ag),(7,ai),(8,(.int .u32 (iandNot .u32 a0 bi))),(10,(.int .i64 bc)),(21,v1),(22,(.int .i64 (x1.length:Int))),(23,(.int .i64 a1)),(44,bM),(45,(.int .i64 (bF.length:Int))),(46,(.int .i64 bW))]∧Mem W bX w (bY::bw::bN::H)∧Ow (RI .u32) 65 bX bY ag bV) bQ ⟨_,_,Z,_,a3,gr,f.k Z,m,a9⟩ ?_
     clear bQ f m
     rintro bU bZ b0 b1 a w ⟨bV,bW,rfl,bX,bY,b2,f,m,b3⟩
     have h1:=rd1 b2 h1
     have bx:=od1 b2 bx
     have bO:=od1 b2 bO
     refine Ac ?_
     refine Ag f Z Z AD fun a f=>Aa (Af ?_)
     rcases Ae b0 with⟨b4,b0⟩|⟨b4,b0⟩
     ·refine Am f Z b4 ?_
      refine An ?_
      refine Af (Ai (Ac ?_))
      obtain⟨b5,b6,b0⟩:=bind_some b0
      refine AQ 2 m bO Z T67 f Z Z Z b6 fun b7 a b8 f=>Br 2 m bO Z Pl3 f Z Z b8 b6 fun b9 a ca f=> ?_
      subst ca
      refine Ad f Z fun a f=>Aa ?_
      refine A7 13 AJ (by kernel_rfl) m ?_
      refine Ak 0 13 Z f Z fun a f=>Ak 1 13 Z f Z fun a f=> ?_
      obtain⟨cb,cc,b0⟩:=bind_some b0
      refine AT 2 13 0 m b3 T61 cc Z f Z Z fun cd a ce f=>Ba 3 13 0 b3 DN ce cc Z f Z fun cf a cg f=> ?_
      subst cg
      refine Ak 4 13 Z f Z fun a f=>Ak 5 13 Z f Z fun a f=> ?_
      obtain⟨ch,ci,b0⟩:=bind_some b0
      refine AT 6 13 1 m bx T61 ci Z f Z Z fun cj a ck f=>Ba 7 13 1 bx DN ck ci Z f Z fun cl a cm f=> ?_
      subst cm
      refine Ak 8 13 Z f Z fun a f=> ?_
      obtain⟨cn,co,b0⟩:=bind_some b0
      refine Ca (i:=9) 13 Z (by kernel_rfl) Z f Z Z Z Tryz.call56 (fun _ _ w cp m=>Wk.d m co) fun a f=>q_p 10 13 Z f (fun _=>AL (f.eval Z) (f.eval Z) CZ) fun a f=>q_p 11 13 Z f (fun _=>AL (f.eval Z) (f.eval Z) b_or) fun a f=> ?_
      obtain⟨cq,cr,b0⟩:=bind_some b0
      refine AT 12 13 0 m b3 T61 cr Z f Z Z fun cs a ct f=>AV fun cu w cv m=> ?_
      have h1:=rd1 cv h1
      have b3:=od1 cv b3
      have bx:=od1 cv bx
      have bO:=od1 cv bO
      refine AC 0 m b3 Z Tryz.sizeOf65 f Z Z ct cr Z Z Z fun cw w m cx=>Aa (Aj ?_)
      refine Ag f Z Z As fun a f=>Ab f Z fun a f=>Aa ?_
      obtain rfl:=sj b0
      exact⟨_,Z,_,_,Z,_,cw,(gt b2 cv),f.k Z,m,cx⟩
     ·refine Ah f Z b4 ?_
      refine Ax Z ?_
      have m:=m.eraseAt 2
      obtain rfl:=sj b0
      obtain rfl:=b1 _ rfl
      exact⟨_,Z,_,bY,b2,f.k Z,m,b3⟩
    ·rintro a w ⟨bR,rfl,bS,bT,cy,f,m,cz⟩
     have h1:=rd1 cy h1
     have bx:=od1 cy bx
     refine Aj ?_
     refine Ag f Z Z As fun a f=>Ab f Z fun a f=>Aa ?_
     obtain rfl:=sj a6
     exact⟨_,Z,_,_,_,_,Z,_,bT,bw,(gt a8 (gt bl (gt bK cy))),f.k Z,m,cz,bx⟩
   ·refine Ah f Z bb ?_
    refine Ax Z ?_
    obtain rfl:=sj a6
    obtain rfl:=a7 _ rfl
    exact⟨_,_,Z,_,a3,a4,a8,f.k Z,m,a9,ba⟩
  ·rintro a w ⟨aS,aT,rfl,aU,aV,aW,cA,f,m,cB,cC⟩
   refine Ac ?_
   refine Ab f Z fun a f=>Ab f Z fun a f=>Ad f Z fun a f=>Ad f Z fun a f=>Aa ?_
   refine Ap ?_
   obtain rfl:=sj hd
   exact⟨[ag,ai],⟨f.get _ _ Z,f.get _ _ Z,trivial⟩,f.defers,_,[aV,aW],(gt aN cA),m,_,_,_,_,Z,Z,cB,cC⟩
theorem Wk.y {W w:World}{G:GH}{H:List Itm}{x0:Int}(hW:Cs W)(m:Mem W G w (H)){y:((List Int))}(hd:D.y x0=some y):
  Calls Tryz.prog 57 #[(.int .u32 x0)] w (Res W G H (fun G' Ho v=>∃r0:Value,∃i0:Itm,Ho=[i0]∧r0=v∧Ow (RI .i64) 2 G' i0 r0 y)):=by
 refine Ar (args:=[(.int .u32 x0)]) (N:=6) [.tmp 2] Tryz.func57 Z Z (Nat.le_of_ble_eq_true Z) Z fun a f=> ?_
 unfold D.y at hd
 refine Ac ?_
 refine Ad f Z fun a f=>Aa (Ac ?_)
 refine Ab f Z fun a f=> ?_
 obtain⟨aa,ab,hd⟩:=bind_some hd
 refine AF f Z Tryz.call72 (Wk.k hW m ab) fun ac ad ae w af m ag a f=> ?_
 obtain⟨ah,ai,rfl,rfl,aj⟩:=ag
 obtain⟨ak,al,hd⟩:=bind_some hd
 refine AF f Z Tryz.call35 (Ow.lendCall (RI.mono _) 0 aj m Z (fun am an m ao=>Wk.K m ao al) (fun _ G' _ _ ⟨a0,a1,e1,e2,o0⟩=>⟨a0,a1,e1,e2,Ow.free (RI.free _) G' o0⟩)) fun ap aq ar w au m av a f=> ?_
 obtain⟨aw,ax,rfl,rfl,ay⟩:=av
 have aj:=od1 au aj
 refine Ad f Z fun a f=>Aa ?_
 refine Ap ?_
 have m:=m.eraseAt 1
 obtain rfl:=sj hd
 exact⟨[aw],⟨f.get _ _ Z,trivial⟩,f.defers,_,[ax],(gt af au),m,_,_,Z,Z,ay⟩
theorem Wk.X {W w:World}{G:GH}{H:List Itm}{x0:Int}{x1:Int}(m:Mem W G w (H)){y:((List Int))}(hd:D.X x0 x1=some y):
  Calls Tryz.prog 81 #[(.int .i64 x0),(.int .i64 x1)] w (Res W G H (fun G' Ho v=>∃r0:Value,∃i0:Itm,Ho=[i0]∧r0=v∧Ow (RI .i64) 2 G' i0 r0 y)):=by
 refine Ar (args:=[(.int .i64 x0),(.int .i64 x1)]) (N:=12) [.tmp 4] Tryz.func81 Z Z (Nat.le_of_ble_eq_true Z) Z fun a f=> ?_
 unfold D.X at hd
 refine Ac ?_
 refine Ad f Z fun a f=>Aa (Ac ?_)
 refine Ab f Z fun a f=>Ab f Z fun a f=>l_o f (r_min2 (f.eval Z) (f.eval Z)) fun a f=>Ab f Z fun a f=>Ab f Z fun a f=>l_o f (r_max2 (f.eval Z) (f.eval Z)) fun a f=>A5 (R:=(RI .i64)) (xs:=([(if x1<x0 then x1 else x0),(if x0<x1 then x1 else x0)]:List Int)) (RI.one _) m T31 f Z Z Z (by decide) (All2.cons Z (All2.cons Z (All2.nil _))) fun aa ab w a m ac f=>Ad f Z fun a f=>Aa ?_
 refine Ap ?_
 obtain rfl:=sj hd
 exact⟨[ab],⟨f.get _ _ Z,trivial⟩,f.defers,_,[aa],gr,m,_,_,Z,Z,ac⟩
theorem Wk.W0 {W w:World}{G:GH}{H:List Itm}{v0:Value}{it0:Itm}{x0:(List (Value×List Int))}{x1:Int}{x2:Int}(m:Mem W G w (it0::H))(o0:Ow (RTg (RI .i64)) 31 G it0 v0 x0){y:((List (Value×List Int)))}(hd:D.W0 x0 x1 x2=some y):
  Calls Tryz.prog 126 #[v0,(.int .i64 x1),(.int .i64 x2),(.func (.func 76) #[] #[])] w (Res W G H (fun G' Ho _=>∃i0:Itm,Ho=[i0]∧Ow (RTg (RI .i64)) 31 G' i0 v0 y)):=by
 refine Ar (args:=[v0,(.int .i64 x1),(.int .i64 x2),(.func (.func 76) #[] #[])]) (N:=53) [] Tryz.func126 Z Z (Nat.le_of_ble_eq_true Z) Z fun a f=> ?_
 unfold D.W0 at hd
 refine Ac ?_
 refine Ab f Z fun a f=>Ag f Z Z As fun a f=>Ad f Z fun a f=>Aa ?_
 obtain⟨aa,ab,hd⟩:=bind_some hd
 refine AE (fun a w=>∃ac:List (Value×List Int),ac=aa∧∃(ad:GH) (ae:Itm),GLe G ad∧Fr a 53 []∧Mem W ad w (ae::H)∧Ow (RTg (RI .i64)) 31 ad ae v0 ac) ?_ ?_
 ·refine Ai ?_
  refine AB (fun af a w=>∃ag:List (Value×List Int),∃ah:Int,(ag,ah)=af∧∃(ai:GH) (aj:Itm),GLe G ai∧Fr a 53 [(0,v0),(1,(.int .i64 x1)),(2,(.int .i64 x2)),(3,(.func (.func 76) #[] #[])),(8,(.int .i64 ah))]∧Mem W ai w (aj::H)∧Ow (RTg (RI .i64)) 31 ai aj v0 ag) ab ⟨_,_,Z,_,it0,gr,f.k Z,m,o0⟩ ?_
  clear ab f m
  rintro af ak al am a w ⟨ag,ah,rfl,ai,aj,an,f,m,ao⟩
  refine Af (Ac ?_)
  refine Ab f Z fun a f=>Ab f Z fun a f=>Ag f Z Z AD fun a f=>Aa ?_
  rcases Ae al with⟨ap,al⟩|⟨ap,al⟩
  ·refine Am f Z ap ?_
   refine An ?_
   refine Af (Ai (Ac ?_))
   refine Ab f Z fun a f=>Ad f Z fun a f=>Aa ?_
   obtain⟨aq,ar,al⟩:=bind_some al
   refine AE (fun a w=>∃au:List (Value×List Int),au=aq∧∃(av:GH) (aw:Itm),GLe ai av∧Fr a 53 [(0,v0),(1,(.int .i64 x1)),(2,(.int .i64 x2)),(3,(.func (.func 76) #[] #[])),(8,(.int .i64 ah))]∧Mem W av w (aw::H)∧Ow (RTg (RI .i64)) 31 av aw v0 au) ?_ ?_
   ·refine Ai ?_
    refine AB (fun ax a w=>∃ay:List (Value×List Int),∃az:Int,(ay,az)=ax∧∃(aA:GH) (aB:Itm),GLe ai aA∧Fr a 53 [(0,v0),(1,(.int .i64 x1)),(2,(.int .i64 x2)),(3,(.func (.func 76) #[] #[])),(8,(.int .i64 ah)),(9,(.int .i64 az))]∧Mem W aA w (aB::H)∧Ow (RTg (RI .i64)) 31 aA aB v0 ay) ar ⟨_,_,Z,_,aj,gr,f.k Z,m,ao⟩ ?_
    clear ar f m
    rintro ax aC aD aE a w ⟨ay,az,rfl,aA,aB,aF,f,m,aG⟩
    refine Af (Af ?_)
    refine A7 17 AJ (by kernel_rfl) m ?_
    refine Ak 0 17 Z f Z fun a f=>Ak 1 17 Z f Z fun a f=>q_p 2 17 Z f (fun _=>AL (f.eval Z) (f.eval Z) Cc) fun a f=>Ak 3 17 Z f Z fun a f=> ?_
    obtain⟨aH,aI,aD⟩:=bind_some aD
    refine Ci (fuel':=0) (listed':= #[true,true,true,true,true,true,true,true,true,true,true,true,true,true,true,true,true]) (fun a=>Fr a 53 [(0,v0),(1,(.int .i64 x1)),(2,(.int .i64 x2)),(3,(.func (.func 76) #[] #[])),(8,(.int .i64 ah)),(9,(.int .i64 az)),(18,(.int .i64 az)),(19,(.int .i64 x1)),(20,(.bool (decide (x1<az)))),(21,(.bool (decide (x1<az)))),(34,(.bool aH))]) ?_ ?_
    ·intro a f
     refine AV fun aJ w aK m=> ?_
     have aG:=Ow.mono (RTg.mono (RI.mono _)) aK aG
     refine Aa ?_
     rcases Ae aD with⟨aL,aD⟩|⟨aL,aD⟩
     ·refine Am f Z aL ?_
      refine An ?_
      refine Af (Ai ?_)
      refine B3 AJ m ?_
      refine p_p 2 Z (by kernel_rfl) f Z Z Z (fun _=>Bq (f.eval Z)) fun a f=>p_p 3 Z (by kernel_rfl) f Z Z Z (fun _=>Bq (f.eval Z)) fun a f=>p_p 4 Z (by kernel_rfl) f Z Z Z (fun _=>AL (f.eval Z) (f.eval Z) A3) fun a f=>B6 28015 12 (by kernel_rfl) Z ?_
      refine Ak 0 28015 Z f Z fun a f=>Ak 1 28015 Z f Z fun a f=>Ak 5 28015 Z f Z fun a f=>Ak 6 28015 Z f Z fun a f=>q_p 7 28015 Z f (fun _=>AL (f.eval Z) (f.eval Z) A3) fun a f=> ?_
      obtain⟨aM,aN,aD⟩:=bind_some aD
      refine AT 8 28015 0 m aG T27 aN Z f Z Z fun aO a aP f=>Ba 9 28015 0 aG AS aP aN Z f Z fun aQ a aR f=>Ak 10 28015 Z f Z fun a f=>Ak 11 28015 Z f Z fun a f=> ?_
      obtain⟨aS,aT,aD⟩:=bind_some aD
      refine AT 12 28015 0 m aG T27 aT Z f Z Z fun aU a aV f=>Ba 13 28015 0 aG AS aV aT Z f Z fun aW a aX f=> ?_
      obtain⟨aY,aZ,aD⟩:=bind_some aD
      refine AT 14 28015 0 m aG T27 aZ Z f Z Z fun a0 a a1 f=>AV fun a2 w a3 m=> ?_
      have aR:=(RTg.mono (RI.mono _)) _ _ _ _ a3 aR
      have aX:=(RTg.mono (RI.mono _)) _ _ _ _ a3 aX
      have aG:=Ow.mono (RTg.mono (RI.mono _)) a3 aG
      refine AC 0 m aG Z Tryz.sizeOf31 f Z Z a1 aZ aR.cells aR.one1 aR fun a4 w m a5=> ?_
      obtain⟨a6,a7,aD⟩:=bind_some aD
      refine AQ 0 m a5 Z T27 f Z Z Z a7 fun a8 a a9 f=>AC 0 m a5 Z Tryz.sizeOf31 f Z Z a9 a7 aX.cells aX.one1 aX fun ba w m bb=>Aa (Aj ?_)
      refine Ab f Z fun a f=>Ag f Z Z A3 fun a f=>Ad f Z fun a f=>Aa ?_
      obtain rfl:=sj aD
      exact⟨_,Z,_,_,Z,_,ba,(gt aF (gt aK a3)),f.k Z,m,bb⟩
     ·refine Ah f Z aL ?_
      refine Ax Z ?_
      obtain rfl:=sj aD
      obtain rfl:=aE _ rfl
      exact⟨_,Z,_,aB,(gt aF aK),f.k Z,m,aG⟩
    ·intro bc
     rcases Ae aI with⟨bd,aI⟩|⟨bd,aI⟩
     ·refine Ak (hw:=wo f bd) 4 17 Z f Z fun a f=> ?_
      refine Ak (hw:=wo f bd) 5 17 Z f Z fun a f=>Ak (hw:=wo f bd) 6 17 Z f Z fun a f=> ?_
      obtain⟨be,bf,aI⟩:=bind_some aI
      refine AT (hw:=wo f bd) 7 17 0 m aG T27 bf Z f Z Z fun bg a bh f=>Ba (hw:=wo f bd) 8 17 0 aG AS bh bf Z f Z fun bi a bj f=>Ak (hw:=wo f bd) 9 17 Z f Z fun a f=>Ak (hw:=wo f bd) 10 17 Z f Z fun a f=>q_p (hw:=wo f bd) 11 17 Z f (fun _=>AL (f.eval Z) (f.eval Z) A3) fun a f=> ?_
      obtain⟨bk,bl,aI⟩:=bind_some aI
      refine AT (hw:=wo f bd) 12 17 0 m aG T27 bl Z f Z Z fun bm a bn f=>Ba (hw:=wo f bd) 13 17 0 aG AS bn bl Z f Z fun bo a bp f=> ?_
      obtain⟨bq,br,aI⟩:=bind_some aI
      refine Cd (i:=14) 17 Z (by kernel_rfl) Z f (Bg f Z Z Z bd) Z Z Z Tryz.call76 (fun _ _ w bs m=>Wk.b m (rd1 bs (bj.2)) (rd1 bs (bp.2)) br) fun a f=>q_p (hw:=wo f bd) 15 17 Z f (fun _=>AL (f.eval Z) (f.eval Z) AD) fun a f=>q_p 16 17 Z f (fun _=>AN (f.eval Z) bd (f.eval Z)) fun a f=> ?_
      obtain rfl:=sj aI
      exact bc _ (f.k Z)
     ·refine Aq 4 17 Z f bd fun a f=> ?_
      refine Aq 5 17 Z f bd fun a f=>Aq 6 17 Z f bd fun a f=>Aq 7 17 Z f bd fun a f=>Aq 8 17 Z f bd fun a f=>Aq 9 17 Z f bd fun a f=>Aq 10 17 Z f bd fun a f=>Aq 11 17 Z f bd fun a f=>Aq 12 17 Z f bd fun a f=>Aq 13 17 Z f bd fun a f=>Aq 14 17 Z f bd fun a f=>Aq 15 17 Z f bd fun a f=>q_p 16 17 Z f (fun _=>AO (f.eval Z) bd (f.eval Z)) fun a f=> ?_
      obtain rfl:=sj aI
      exact bc _ (f.k Z)
   ·rintro a w ⟨au,rfl,av,aw,bt,f,m,bu⟩
    refine Aj ?_
    refine Ab f Z fun a f=>Ag f Z Z As fun a f=>Ad f Z fun a f=>Aa ?_
    obtain rfl:=sj al
    exact⟨_,Z,_,_,Z,_,aw,(gt an bt),f.k Z,m,bu⟩
  ·refine Ah f Z ap ?_
   refine Ax Z ?_
   obtain rfl:=sj al
   obtain rfl:=am _ rfl
   exact⟨_,Z,_,aj,an,f.weak trivial,m,ao⟩
 ·rintro a w ⟨ac,rfl,ad,ae,bv,f,m,bw⟩
  obtain rfl:=sj hd
  exact⟨[],trivial,f.defers,_,[ae],bv,m,_,Z,bw⟩
theorem Wk.y0 {W w:World}{G:GH}{H:List Itm}{v0:Value}{it0:Itm}{x0:(List (Value×List Int))}{x1:Int}{x2:Int}{x3:Int}(m:Mem W G w (it0::H))(o0:Ow (RTg (RI .i64)) 31 G it0 v0 x0){y:((List (Value×List Int)))}(hd:D.y0 x0 x1 x2 x3=some y):
  Calls Tryz.prog 137 #[v0,(.int .i64 x1),(.int .i64 x2),(.int .i64 x3),(.func (.func 76) #[] #[])] w (Res W G H (fun G' Ho _=>∃i0:Itm,Ho=[i0]∧Ow (RTg (RI .i64)) 31 G' i0 v0 y)):=by
 refine Ar (args:=[v0,(.int .i64 x1),(.int .i64 x2),(.int .i64 x3),(.func (.func 76) #[] #[])]) (N:=82) [] Tryz.func137 Z Z (Nat.le_of_ble_eq_true Z) Z fun a f=> ?_
 unfold D.y0 at hd
 refine Ac ?_
 refine Ab f Z fun a f=>Ad f Z fun a f=>Aa ?_
 obtain⟨aa,ab,hd⟩:=bind_some hd
 refine AE (fun a w=>∃q_182':(List (Value×List Int)),aa= .inl q_182'∧∃ac:List (Value×List Int),ac=q_182'∧∃(ad:GH) (ae:Itm),GLe G ad∧Fr a 82 []∧Mem W ad w (ae::H)∧Ow (RTg (RI .i64)) 31 ad ae v0 ac) ?_ ?_
 ·refine Ai ?_
  refine AB (fun af a w=>∃ag:List (Value×List Int),∃ah:Int,(ag,ah)=af∧∃(ai:GH) (aj:Itm),GLe G ai∧Fr a 82 [(0,v0),(2,(.int .i64 x2)),(3,(.int .i64 x3)),(4,(.func (.func 76) #[] #[])),(10,(.int .i64 ah))]∧Mem W ai w (aj::H)∧Ow (RTg (RI .i64)) 31 ai aj v0 ag) ab ⟨_,_,Z,_,it0,gr,f.k Z,m,o0⟩ ?_
  clear ab f m
  rintro af ak al am a w ⟨ag,ah,rfl,ai,aj,an,f,m,ao⟩
  refine Ai (Ac ?_)
  refine Ab f Z fun a f=>Ag f Z Z Dj fun a f=>Ag f Z Z As fun a f=>Ad f Z fun a f=>Aa (Af (Ac ?_))
  refine Ab f Z fun a f=>Ab f Z fun a f=>Ag f Z Z Ck fun a f=>Aa ?_
  rcases Ae al with⟨ap,al⟩|⟨ap,al⟩
  ·refine Am f Z ap ?_
   refine Ax Z ?_
   obtain rfl:=sj al
   obtain rfl:=am _ rfl
   exact⟨_,Z,_,Z,_,aj,an,f.weak trivial,m,ao⟩
  ·refine Ah f Z ap ?_
   refine An ?_
   refine Af (Af ?_)
   refine A7 22 AJ (by kernel_rfl) m ?_
   refine Ak 0 22 Z f Z fun a f=>q_p 1 22 Z f (fun _=>AL (f.eval Z) (f.eval Z) As) fun a f=>Ak 2 22 Z f Z fun a f=>q_p 3 22 Z f (fun _=>AL (f.eval Z) (f.eval Z) AD) fun a f=>Ak 4 22 Z f Z fun a f=> ?_
   obtain⟨aq,ar,al⟩:=bind_some al
   refine Ci (fuel':=0) (listed':= #[true,true,true,true,true,true,true,true,true,true,true,true,true,true,true,true,true,true,true,true,true,true]) (fun a=>Fr a 82 [(0,v0),(2,(.int .i64 x2)),(3,(.int .i64 x3)),(4,(.func (.func 76) #[] #[])),(10,(.int .i64 ah)),(11,(.int .i64 (IntKind.i64.wrap ((IntKind.i64.wrap (2*ah))+1)))),(18,(.bool (decide (x2≤(IntKind.i64.wrap ((IntKind.i64.wrap (2*ah))+1)))))),(19,(.int .i64 (IntKind.i64.wrap ((IntKind.i64.wrap (2*ah))+1)))),(20,(.int .i64 (IntKind.i64.wrap ((IntKind.i64.wrap ((IntKind.i64.wrap (2*ah))+1))+1)))),(21,(.int .i64 x2)),(22,(.bool (decide ((IntKind.i64.wrap ((IntKind.i64.wrap ((IntKind.i64.wrap (2*ah))+1))+1))<x2)))),(23,(.bool (decide ((IntKind.i64.wrap ((IntKind.i64.wrap ((IntKind.i64.wrap (2*ah))+1))+1))<x2)))),(40,(.bool aq))]) ?_ ?_
   ·intro a f
    refine AV fun au w av m=> ?_
    have ao:=Ow.mono (RTg.mono (RI.mono _)) av ao
    refine Aa ?_
    obtain⟨aw,ax,al⟩:=bind_some al
    refine AE (fun a w=>∃ay:Int,ay=aw∧∃(az:GH),GLe au az∧Fr a 82 [(0,v0),(2,(.int .i64 x2)),(3,(.int .i64 x3)),(4,(.func (.func 76) #[] #[])),(10,(.int .i64 ah)),(11,(.int .i64 ay))]∧Mem W az w (aj::H)) ?_ ?_
    ·rcases Ae ax with⟨aA,ax⟩|⟨aA,ax⟩
     ·refine Am f Z aA ?_
      refine Aj ?_
      refine Ab f Z fun a f=>Ag f Z Z As fun a f=>Ad f Z fun a f=>Aa ?_
      obtain rfl:=sj ax
      exact⟨_,Z,_,gr,f.k Z,m⟩
     ·refine Ah f Z aA ?_
      refine An ?_
      obtain rfl:=sj ax
      exact⟨_,Z,_,gr,f.k Z,m⟩
    ·rintro a w ⟨ay,rfl,az,aB,f,m⟩
     have ao:=Ow.mono (RTg.mono (RI.mono _)) aB ao
     refine Af (Af ?_)
     refine A7 16 AJ (by kernel_rfl) m ?_
     refine Ak 0 16 Z f Z fun a f=>Ak 1 16 Z f Z fun a f=>Ak 2 16 Z f Z fun a f=>Ak 3 16 Z f Z fun a f=>q_p 4 16 Z f (fun _=>AL (f.eval Z) (f.eval Z) As) fun a f=> ?_
     obtain⟨aC,aD,al⟩:=bind_some al
     refine AT 5 16 0 m ao T27 aD Z f Z Z fun aE a aF f=>Ba 6 16 0 ao AS aF aD Z f Z fun aG a aH f=>Ak 7 16 Z f Z fun a f=>Ak 8 16 Z f Z fun a f=>Ak 9 16 Z f Z fun a f=>q_p 10 16 Z f (fun _=>AL (f.eval Z) (f.eval Z) As) fun a f=> ?_
     obtain⟨aI,aJ,al⟩:=bind_some al
     refine AT 11 16 0 m ao T27 aJ Z f Z Z fun aK a aL f=>Ba 12 16 0 ao AS aL aJ Z f Z fun aM a aN f=> ?_
     obtain⟨aO,aP,al⟩:=bind_some al
     refine Cd (i:=13) 16 Z (by kernel_rfl) Z f Z Z Z Z Tryz.call76 (fun _ _ w aQ m=>Wk.b m (rd1 aQ (aH.2)) (rd1 aQ (aN.2)) aP) fun a f=>q_p 14 16 Z f (fun _=>AL (f.eval Z) (f.eval Z) AD) fun a f=>q_p 15 16 Z f (fun _=>Bp (f.eval Z)) fun a f=>AV fun aR w aS m=> ?_
     have aH:=(RTg.mono (RI.mono _)) _ _ _ _ aS aH
     have aN:=(RTg.mono (RI.mono _)) _ _ _ _ aS aN
     have ao:=Ow.mono (RTg.mono (RI.mono _)) aS ao
     refine Aa ?_
     rcases Ae al with⟨aT,al⟩|⟨aT,al⟩
     ·refine Am f Z aT ?_
      refine Ap ?_
      obtain rfl:=sj al
      obtain rfl:=am _ rfl
      obtain rfl:=sj hd
      exact⟨[],trivial,f.defers,_,[aj],(gt an (gt av (gt aB aS))),m,_,Z,ao⟩
     ·refine Ah f Z aT ?_
      refine An ?_
      refine Af ?_
      refine B3 AJ m ?_
      refine p_p 4 Z (by kernel_rfl) f Z Z Z (fun _=>Bq (f.eval Z)) fun a f=>p_p 5 Z (by kernel_rfl) f Z Z Z (fun _=>Bq (f.eval Z)) fun a f=>p_p 6 Z (by kernel_rfl) f Z Z Z (fun _=>Bq (f.eval Z)) fun a f=>p_p 7 Z (by kernel_rfl) f Z Z Z (fun _=>AL (f.eval Z) (f.eval Z) As) fun a f=>B6 240021 17 (by kernel_rfl) Z ?_
      refine Ak 0 240021 Z f Z fun a f=>Ak 1 240021 Z f Z fun a f=>Ak 2 240021 Z f Z fun a f=>q_p 3 240021 Z f (fun _=>AL (f.eval Z) (f.eval Z) As) fun a f=>Ak 8 240021 Z f Z fun a f=>Ak 9 240021 Z f Z fun a f=>Ak 10 240021 Z f Z fun a f=>q_p 11 240021 Z f (fun _=>AL (f.eval Z) (f.eval Z) As) fun a f=> ?_
      obtain⟨aU,aV,al⟩:=bind_some al
      refine AT 12 240021 0 m ao T27 aV Z f Z Z fun aW a aX f=>Ba 13 240021 0 ao AS aX aV Z f Z fun aY a aZ f=>Ak 14 240021 Z f Z fun a f=>Ak 15 240021 Z f Z fun a f=>Ak 16 240021 Z f Z fun a f=>q_p 17 240021 Z f (fun _=>AL (f.eval Z) (f.eval Z) As) fun a f=> ?_
      obtain⟨a0,a1,al⟩:=bind_some al
      refine AT 18 240021 0 m ao T27 a1 Z f Z Z fun a2 a a3 f=>Ba 19 240021 0 ao AS a3 a1 Z f Z fun a4 a a5 f=> ?_
      obtain⟨a6,a7,al⟩:=bind_some al
      refine AT 20 240021 0 m ao T27 a7 Z f Z Z fun a8 a a9 f=>AV fun ba w bb m=> ?_
      have aZ:=(RTg.mono (RI.mono _)) _ _ _ _ bb aZ
      have a5:=(RTg.mono (RI.mono _)) _ _ _ _ bb a5
      have ao:=Ow.mono (RTg.mono (RI.mono _)) bb ao
      refine AC 0 m ao Z Tryz.sizeOf31 f Z Z a9 a7 aZ.cells aZ.one1 aZ fun bc w m bd=> ?_
      obtain⟨be,bf,al⟩:=bind_some al
      refine AQ 0 m bd Z T27 f Z Z Z bf fun bg a bh f=>AC 0 m bd Z Tryz.sizeOf31 f Z Z bh bf a5.cells a5.one1 a5 fun bi w m bj=>Aa (Aj ?_)
      refine Ab f Z fun a f=>Ad f Z fun a f=>Aa ?_
      obtain rfl:=sj al
      exact⟨_,Z,_,_,Z,_,bi,(gt an (gt av (gt aB (gt aS bb)))),f.k Z,m,bj⟩
   ·intro bk
    rcases Ae ar with⟨bl,ar⟩|⟨bl,ar⟩
    ·refine Ak (hw:=wo f bl) 5 22 Z f Z fun a f=> ?_
     refine Ak (hw:=wo f bl) 6 22 Z f Z fun a f=>Ak (hw:=wo f bl) 7 22 Z f Z fun a f=>Ak (hw:=wo f bl) 8 22 Z f Z fun a f=>q_p (hw:=wo f bl) 9 22 Z f (fun _=>AL (f.eval Z) (f.eval Z) As) fun a f=> ?_
     obtain⟨bm,bn,ar⟩:=bind_some ar
     refine AT (hw:=wo f bl) 10 22 0 m ao T27 bn Z f Z Z fun bo a bp f=>Ba (hw:=wo f bl) 11 22 0 ao AS bp bn Z f Z fun bq a br f=>Ak (hw:=wo f bl) 12 22 Z f Z fun a f=>Ak (hw:=wo f bl) 13 22 Z f Z fun a f=>Ak (hw:=wo f bl) 14 22 Z f Z fun a f=>q_p (hw:=wo f bl) 15 22 Z f (fun _=>AL (f.eval Z) (f.eval Z) As) fun a f=>q_p (hw:=wo f bl) 16 22 Z f (fun _=>AL (f.eval Z) (f.eval Z) As) fun a f=> ?_
     obtain⟨bs,bt,ar⟩:=bind_some ar
     refine AT (hw:=wo f bl) 17 22 0 m ao T27 bt Z f Z Z fun bu a bv f=>Ba (hw:=wo f bl) 18 22 0 ao AS bv bt Z f Z fun bw a bx f=> ?_
     obtain⟨bz,bA,ar⟩:=bind_some ar
     refine Cd (i:=19) 22 Z (by kernel_rfl) Z f (Bg f Z Z Z bl) Z Z Z Tryz.call76 (fun _ _ w bB m=>Wk.b m (rd1 bB (br.2)) (rd1 bB (bx.2)) bA) fun a f=>q_p (hw:=wo f bl) 20 22 Z f (fun _=>AL (f.eval Z) (f.eval Z) AD) fun a f=>q_p 21 22 Z f (fun _=>AN (f.eval Z) bl (f.eval Z)) fun a f=> ?_
     obtain rfl:=sj ar
     exact bk _ (f.k Z)
    ·refine Aq 5 22 Z f bl fun a f=> ?_
     refine Aq 6 22 Z f bl fun a f=>Aq 7 22 Z f bl fun a f=>Aq 8 22 Z f bl fun a f=>Aq 9 22 Z f bl fun a f=>Aq 10 22 Z f bl fun a f=>Aq 11 22 Z f bl fun a f=>Aq 12 22 Z f bl fun a f=>Aq 13 22 Z f bl fun a f=>Aq 14 22 Z f bl fun a f=>Aq 15 22 Z f bl fun a f=>Aq 16 22 Z f bl fun a f=>Aq 17 22 Z f bl fun a f=>Aq 18 22 Z f bl fun a f=>Aq 19 22 Z f bl fun a f=>Aq 20 22 Z f bl fun a f=>q_p 21 22 Z f (fun _=>AO (f.eval Z) bl (f.eval Z)) fun a f=> ?_
     obtain rfl:=sj ar
     exact bk _ (f.k Z)
 ·rintro a w ⟨_,rfl,ac,rfl,ad,ae,bC,f,m,bD⟩
  obtain rfl:=sj hd
  exact⟨[],trivial,f.defers,_,[ae],bC,m,_,Z,bD⟩
theorem Wk.j1 {W w:World}{G:GH}{H:List Itm}{v0:Value}{it0:Itm}{x0:(List (Value×List Int))}{x1:Int}{x2:Int}(m:Mem W G w (it0::H))(o0:Ow (RTg (RI .i64)) 31 G it0 v0 x0){y:((List (Value×List Int)))}(hd:D.j1 x0 x1 x2=some y):
  Calls Tryz.prog 127 #[v0,(.int .i64 x1),(.int .i64 x2),(.func (.func 76) #[] #[])] w (Res W G H (fun G' Ho _=>∃i0:Itm,Ho=[i0]∧Ow (RTg (RI .i64)) 31 G' i0 v0 y)):=by
 refine Ar (args:=[v0,(.int .i64 x1),(.int .i64 x2),(.func (.func 76) #[] #[])]) (N:=60) [] Tryz.func127 Z Z (Nat.le_of_ble_eq_true Z) Z fun a f=> ?_
 unfold D.j1 at hd
 refine Ac ?_
 refine Ab f Z fun a f=>Ad f Z fun a f=>Aa (Ac ?_)
 refine Ad f Z fun a f=>Aa (Ac ?_)
 refine Ab f Z fun a f=>Ab f Z fun a f=>Ag f Z Z A3 fun a f=>Ad f Z fun a f=>Aa (Af (Ac ?_))
 refine Ab f Z fun a f=>Ag f Z Z A3 fun a f=>Ag f Z Z (b_quo Z) fun a f=>Ad f Z fun a f=>Aa ?_
 obtain⟨aa,ab,hd⟩:=bind_some hd
 refine AE (fun a w=>∃ac:List (Value×List Int),ac=aa∧∃(ad:GH) (ae:Itm),GLe G ad∧Fr a 60 [(0,v0),(3,(.func (.func 76) #[] #[])),(8,(.int .i64 x1)),(9,(.int .i64 0)),(10,(.int .i64 (IntKind.i64.wrap (x2-x1))))]∧Mem W ad w (ae::H)∧Ow (RTg (RI .i64)) 31 ad ae v0 ac) ?_ ?_
 ·refine Ai ?_
  refine AB (fun af a w=>∃ag:List (Value×List Int),∃ah:Int,(ag,ah)=af∧∃(ai:GH) (aj:Itm),GLe G ai∧Fr a 60 [(0,v0),(3,(.func (.func 76) #[] #[])),(8,(.int .i64 x1)),(9,(.int .i64 0)),(10,(.int .i64 (IntKind.i64.wrap (x2-x1)))),(11,(.int .i64 ah))]∧Mem W ai w (aj::H)∧Ow (RTg (RI .i64)) 31 ai aj v0 ag) ab ⟨_,_,Z,_,it0,gr,f.k Z,m,o0⟩ ?_
  clear ab f m
  rintro af ak al am a w ⟨ag,ah,rfl,ai,aj,an,f,m,ao⟩
  refine Af (Ac ?_)
  refine Ab f Z fun a f=>Ag f Z Z Ck fun a f=>Aa ?_
  rcases Ae al with⟨ap,al⟩|⟨ap,al⟩
  ·refine Am f Z ap ?_
   refine An ?_
   refine Af (Ai (Aj ?_))
   refine Ab f Z fun a f=>Ab f Z fun a f=>Ab f Z fun a f=>Ab f Z fun a f=>Ab f Z fun a f=> ?_
   obtain⟨aq,ar,al⟩:=bind_some al
   refine AF f Z Tryz.call137 (Wk.y0 m ao ar) fun au av aw w ax m ay a f=> ?_
   obtain⟨az,rfl,aA⟩:=ay
   refine Aa (Aj ?_)
   refine Ab f Z fun a f=>Ag f Z Z A3 fun a f=>Ad f Z fun a f=>Aa ?_
   obtain rfl:=sj al
   exact⟨_,Z,_,_,Z,_,az,(gt an ax),f.k Z,m,aA⟩
  ·refine Ah f Z ap ?_
   refine Ax Z ?_
   obtain rfl:=sj al
   obtain rfl:=am _ rfl
   exact⟨_,Z,_,aj,an,f.k Z,m,ao⟩
 ·rintro a w ⟨ac,rfl,ad,ae,aB,f,m,aC⟩
  refine Ac ?_
  refine Ab f Z fun a f=>Ag f Z Z A3 fun a f=>Ad f Z fun a f=>Aa ?_
  obtain⟨aD,aE,hd⟩:=bind_some hd
  refine AE (fun a w=>∃aF:List (Value×List Int),aF=aD∧∃(aG:GH) (aH:Itm),GLe ad aG∧Fr a 60 []∧Mem W aG w (aH::H)∧Ow (RTg (RI .i64)) 31 aG aH v0 aF) ?_ ?_
  ·refine Ai ?_
   refine AB (fun aI a w=>∃aJ:List (Value×List Int),∃aK:Int,(aJ,aK)=aI∧∃(aL:GH) (aM:Itm),GLe ad aL∧Fr a 60 [(0,v0),(3,(.func (.func 76) #[] #[])),(8,(.int .i64 x1)),(9,(.int .i64 0)),(12,(.int .i64 aK))]∧Mem W aL w (aM::H)∧Ow (RTg (RI .i64)) 31 aL aM v0 aJ) aE ⟨_,_,Z,_,ae,gr,f.k Z,m,aC⟩ ?_
   clear aE f m
   rintro aI aN aO aP a w ⟨aJ,aK,rfl,aL,aM,aQ,f,m,aR⟩
   refine Af (Ac ?_)
   refine Ab f Z fun a f=>Ag f Z Z Ck fun a f=>Aa ?_
   rcases Ae aO with⟨aS,aO⟩|⟨aS,aO⟩
   ·refine Am f Z aS ?_
    refine An ?_
    refine Af (Ai (Af ?_))
    refine B3 AJ m ?_
    refine p_p 2 Z (by kernel_rfl) f Z Z Z (fun _=>Bq (f.eval Z)) fun a f=>p_p 3 Z (by kernel_rfl) f Z Z Z (fun _=>Bq (f.eval Z)) fun a f=>p_p 4 Z (by kernel_rfl) f Z Z Z (fun _=>Bq (f.eval Z)) fun a f=>p_p 5 Z (by kernel_rfl) f Z Z Z (fun _=>AL (f.eval Z) (f.eval Z) As) fun a f=>B6 60017 13 (by kernel_rfl) Z ?_
    refine Ak 0 60017 Z f Z fun a f=>Ak 1 60017 Z f Z fun a f=>Ak 6 60017 Z f Z fun a f=>Ak 7 60017 Z f Z fun a f=>Ak 8 60017 Z f Z fun a f=>q_p 9 60017 Z f (fun _=>AL (f.eval Z) (f.eval Z) As) fun a f=> ?_
    obtain⟨aT,aU,aO⟩:=bind_some aO
    refine AT 10 60017 0 m aR T27 aU Z f Z Z fun aV a aW f=>Ba 11 60017 0 aR AS aW aU Z f Z fun aX a aY f=>Ak 12 60017 Z f Z fun a f=>Ak 13 60017 Z f Z fun a f=> ?_
    obtain⟨aZ,a0,aO⟩:=bind_some aO
    refine AT 14 60017 0 m aR T27 a0 Z f Z Z fun a1 a a2 f=>Ba 15 60017 0 aR AS a2 a0 Z f Z fun a3 a a4 f=> ?_
    obtain⟨a5,a6,aO⟩:=bind_some aO
    refine AT 16 60017 0 m aR T27 a6 Z f Z Z fun a7 a a8 f=>AV fun a9 w ba m=> ?_
    have aY:=(RTg.mono (RI.mono _)) _ _ _ _ ba aY
    have a4:=(RTg.mono (RI.mono _)) _ _ _ _ ba a4
    have aR:=Ow.mono (RTg.mono (RI.mono _)) ba aR
    refine AC 0 m aR Z Tryz.sizeOf31 f Z Z a8 a6 aY.cells aY.one1 aY fun bb w m bc=> ?_
    obtain⟨bd,be,aO⟩:=bind_some aO
    refine AQ 0 m bc Z T27 f Z Z Z be fun bf a bg f=>AC 0 m bc Z Tryz.sizeOf31 f Z Z bg be a4.cells a4.one1 a4 fun bh w m bi=>Aa (Aj ?_)
    refine Ab f Z fun a f=>Ab f Z fun a f=>Ab f Z fun a f=>Ab f Z fun a f=>Ab f Z fun a f=> ?_
    obtain⟨bj,bk,aO⟩:=bind_some aO
    refine AF f Z Tryz.call137 (Wk.y0 m bi bk) fun bl bm bn w bo m bp a f=> ?_
    obtain⟨bq,rfl,br⟩:=bp
    refine Aa (Aj ?_)
    refine Ab f Z fun a f=>Ag f Z Z A3 fun a f=>Ad f Z fun a f=>Aa ?_
    obtain rfl:=sj aO
    exact⟨_,Z,_,_,Z,_,bq,(gt aQ (gt ba bo)),f.k Z,m,br⟩
   ·refine Ah f Z aS ?_
    refine Ax Z ?_
    obtain rfl:=sj aO
    obtain rfl:=aP _ rfl
    exact⟨_,Z,_,aM,aQ,f.weak trivial,m,aR⟩
  ·rintro a w ⟨aF,rfl,aG,aH,bs,f,m,bt⟩
   obtain rfl:=sj hd
   exact⟨[],trivial,f.defers,_,[aH],(gt aB bs),m,_,Z,bt⟩
theorem Wk.a1 {W w:World}{G:GH}{H:List Itm}{v0:Value}{it0:Itm}{x0:(List (Value×List Int))}{x1:Int}{x2:Int}(m:Mem W G w (it0::H))(o0:Ow (RTg (RI .i64)) 31 G it0 v0 x0){y:((List (Value×List Int)))}(hd:D.a1 x0 x1 x2=some y):
  Calls Tryz.prog 128 #[v0,(.int .i64 x1),(.int .i64 x2),(.func (.func 76) #[] #[])] w (Res W G H (fun G' Ho _=>∃i0:Itm,Ho=[i0]∧Ow (RTg (RI .i64)) 31 G' i0 v0 y)):=by
 refine Ar (args:=[v0,(.int .i64 x1),(.int .i64 x2),(.func (.func 76) #[] #[])]) (N:=67) [] Tryz.func128 Z Z (Nat.le_of_ble_eq_true Z) Z fun a f=> ?_
 unfold D.a1 at hd
 refine Ac ?_
 refine Ab f Z fun a f=>Ab f Z fun a f=>Ag f Z Z A3 fun a f=>Ad f Z fun a f=>Aa (Ac ?_)
 refine Ab f Z fun a f=>Ag f Z Z Ck fun a f=>Aa ?_
 rcases Ae hd with⟨aa,hd⟩|⟨aa,hd⟩
 ·refine Am f Z aa ?_
  refine Ac ?_
  refine Ab f Z fun a f=>l_o f (Di (f.eval Z) ⟨_,Tryz.underlying3⟩ Tryz.underlying148) fun a f=>BF (cs:=[(.int .u64 0)]) Tryz.zeroValue148 m f Z Z fun ab w a m f=>AR 0 0 (ds:=[(.int .u64 (IntKind.u64.wrap (IntKind.i64.wrap (x2-x1))))]) m Tryz.sizeOf148 f Z Z Z (AM Z A6) Z (Nat.le_of_ble_eq_true Z) Z fun w m=>Aa (Ac ?_)
  refine Ab f Z fun a f=> ?_
  obtain⟨ac,ad,hd⟩:=bind_some hd
  refine AY f Z Tryz.call138 (Wk.C m ad) fun ae w af m a f=> ?_
  have o0:=Ow.mono (RTg.mono (RI.mono _)) af o0
  refine Ad f Z fun a f=>Aa (Ac ?_)
  refine Ab f Z fun a f=>Ab f Z fun a f=>Ag f Z Z (b_quo Z) fun a f=>Ag f Z Z Dj fun a f=>Ag f Z Z As fun a f=>Ag f Z Z A3 fun a f=>Ad f Z fun a f=>Aa ?_
  obtain⟨ag,ah,hd⟩:=bind_some hd
  refine AE (fun a w=>∃ai:List (Value×List Int),ai=ag∧∃(aj:GH) (ak:Itm),GLe ae aj∧Fr a 67 []∧Mem W aj w (ak::H)∧Ow (RTg (RI .i64)) 31 aj ak v0 ai) ?_ ?_
  ·refine Ai ?_
   refine AB (fun al a w=>∃am:List (Value×List Int),∃an:Int,∃ao:Int,(am,an,ao)=al∧∃(ap:GH) (aq:Itm),GLe ae ap∧Fr a 67 [(0,v0),(1,(.int .i64 x1)),(8,(.int .i64 (IntKind.i64.wrap (x2-x1)))),(9,(.pointer (some ⟨ab,0,none⟩))),(10,(.int .u64 ac)),(11,(.int .i64 an))]∧Mem W ap w (Itm.box ab 148 [(.int .u64 ao)]::aq::H)∧Ow (RTg (RI .i64)) 31 ap aq v0 am) ah ⟨_,_,_,Z,_,it0,gr,f.k Z,m,o0⟩ ?_
   clear ah f m
   rintro al ar au av a w ⟨am,an,ao,rfl,ap,aq,aw,f,m,ax⟩
   refine Af (Ac ?_)
   refine Ab f Z fun a f=>Ab f Z fun a f=>Ab f Z fun a f=>Ag f Z Z (b_quo Z) fun a f=>Ag f Z Z Dj fun a f=>Ag f Z Z As fun a f=>Ag f Z Z As fun a f=>Ag f Z Z Cm fun a f=>Aa ?_
   rcases Ae au with⟨ay,au⟩|⟨ay,au⟩
   ·refine Am f Z ay ?_
    refine An ?_
    refine Af (Ai (Ac ?_))
    obtain⟨az,aA,au⟩:=bind_some au
    refine AF f Z Tryz.call139 (Wk.N m aA) fun aB aC aD w aE m aF a f=> ?_
    obtain⟨rfl,rfl⟩:=aF
    have ax:=Ow.mono (RTg.mono (RI.mono _)) aE ax
    refine Ab f Z fun a f=>Ag f Z Z A3 fun a f=>Ag f Z Z D8 fun a f=>l_o f (Di (f.eval Z) ⟨_,Tryz.underlying95⟩ Tryz.underlying3) fun a f=>Ad f Z fun a f=>Aa (Af (Ac ?_))
    refine Ab f Z fun a f=>Ab f Z fun a f=>Ag f Z Z Ck fun a f=>Aa ?_
    obtain⟨aG,aH,au⟩:=bind_some au
    refine AE (fun a w=>∃aI:Int,aI=aG∧∃(aJ:GH),GLe aC aJ∧Fr a 67 [(0,v0),(1,(.int .i64 x1)),(8,(.int .i64 (IntKind.i64.wrap (x2-x1)))),(9,(.pointer (some ⟨ab,0,none⟩))),(10,(.int .u64 ac)),(11,(.int .i64 an)),(12,(.int .i64 aI))]∧Mem W aJ w (Itm.box ab 148 [(.int .u64 az.2)]::aq::H)) ?_ ?_
    ·rcases Ae aH with⟨aK,aH⟩|⟨aK,aH⟩
     ·refine Am f Z aK ?_
      refine Aj ?_
      refine Ab f Z fun a f=>Ab f Z fun a f=>Ag f Z Z A3 fun a f=>Ad f Z fun a f=>Aa ?_
      obtain rfl:=sj aH
      exact⟨_,Z,_,gr,f.k Z,m⟩
     ·refine Ah f Z aK ?_
      refine An ?_
      obtain rfl:=sj aH
      exact⟨_,Z,_,gr,f.k Z,m⟩
    ·rintro a w ⟨aI,rfl,aJ,aL,f,m⟩
     have ax:=Ow.mono (RTg.mono (RI.mono _)) aL ax
     refine B3 AJ m ?_
     refine p_p 2 Z (by kernel_rfl) f Z Z Z (fun _=>Bq (f.eval Z)) fun a f=>p_p 3 Z (by kernel_rfl) f Z Z Z (fun _=>Bq (f.eval Z)) fun a f=>p_p 4 Z (by kernel_rfl) f Z Z Z (fun _=>Bq (f.eval Z)) fun a f=>p_p 5 Z (by kernel_rfl) f Z Z Z (fun _=>AL (f.eval Z) (f.eval Z) As) fun a f=>B6 60017 13 (by kernel_rfl) Z ?_
     refine Ak 0 60017 Z f Z fun a f=>Ak 1 60017 Z f Z fun a f=>Ak 6 60017 Z f Z fun a f=>Ak 7 60017 Z f Z fun a f=>Ak 8 60017 Z f Z fun a f=>q_p 9 60017 Z f (fun _=>AL (f.eval Z) (f.eval Z) As) fun a f=> ?_
     obtain⟨aM,aN,au⟩:=bind_some au
     refine AT 10 60017 1 m ax T27 aN Z f Z Z fun aO a aP f=>Ba 11 60017 1 ax AS aP aN Z f Z fun aQ a aR f=>Ak 12 60017 Z f Z fun a f=>Ak 13 60017 Z f Z fun a f=> ?_
     obtain⟨aS,aT,au⟩:=bind_some au
     refine AT 14 60017 1 m ax T27 aT Z f Z Z fun aU a aV f=>Ba 15 60017 1 ax AS aV aT Z f Z fun aW a aX f=> ?_
     obtain⟨aY,aZ,au⟩:=bind_some au
     refine AT 16 60017 1 m ax T27 aZ Z f Z Z fun a0 a a1 f=>AV fun a2 w a3 m=> ?_
     have aR:=(RTg.mono (RI.mono _)) _ _ _ _ a3 aR
     have aX:=(RTg.mono (RI.mono _)) _ _ _ _ a3 aX
     have ax:=Ow.mono (RTg.mono (RI.mono _)) a3 ax
     refine AC 1 m ax Z Tryz.sizeOf31 f Z Z a1 aZ aR.cells aR.one1 aR fun a4 w m a5=> ?_
     obtain⟨a6,a7,au⟩:=bind_some au
     refine AQ 1 m a5 Z T27 f Z Z Z a7 fun a8 a a9 f=>AC 1 m a5 Z Tryz.sizeOf31 f Z Z a9 a7 aX.cells aX.one1 aX fun ba w m bb=>Aa (Aj ?_)
     refine Ab f Z fun a f=>Ag f Z Z As fun a f=>Ad f Z fun a f=>Aa ?_
     obtain rfl:=sj au
     exact⟨_,Z,_,_,_,Z,_,ba,(gt aw (gt aE (gt aL a3))),f.k Z,m,bb⟩
   ·refine Ah f Z ay ?_
    refine Ax Z ?_
    have m:=m.front 1 rfl
    have m:=m.eraseAt 1
    obtain rfl:=sj au
    obtain rfl:=av _ rfl
    exact⟨_,Z,_,aq,aw,f.weak trivial,m,ax⟩
  ·rintro a w ⟨ai,rfl,aj,ak,bc,f,m,bd⟩
   obtain rfl:=sj hd
   exact⟨[],trivial,f.defers,_,[ak],(gt af bc),m,_,Z,bd⟩
 ·refine Ah f Z aa ?_
  refine An ?_
  obtain rfl:=sj hd
  exact⟨[],trivial,f.defers,_,[it0],gr,m,_,Z,o0⟩
theorem Wk.I {W w:World}{G:GH}{H:List Itm}{v0:Value}{it0:Itm}{b3:Nat}{x0:(List (Value×List Int))}{x1:Int}{x2:Int}{x3_0:Int}(m:Mem W G w (it0::Itm.box b3 3 [(.int .i64 x3_0)]::H))(o0:Ow (RTg (RI .i64)) 31 G it0 v0 x0){y:Int×Int×((List (Value×List Int)))×Int}(hd:D.I x0 x1 x2 x3_0=some y):
  Calls Tryz.prog 142 #[v0,(.int .i64 x1),(.int .i64 x2),(.pointer (some ⟨b3,0,none⟩)),(.func (.func 76) #[] #[])] w (Res W G H (fun G' Ho v=>∃i0:Itm,Ho=[i0,Itm.box b3 3 [(.int .i64 y.2.2.2)]]∧v= .tuple #[(.int .i64 y.1),(.int .i64 y.2.1)]∧Ow (RTg (RI .i64)) 31 G' i0 v0 y.2.2.1)):=by
 refine Ar (args:=[v0,(.int .i64 x1),(.int .i64 x2),(.pointer (some ⟨b3,0,none⟩)),(.func (.func 76) #[] #[])]) (N:=32) [.tmp 10,.tmp 11] Tryz.func142 Z Z (Nat.le_of_ble_eq_true Z) Z fun a f=> ?_
 unfold D.I at hd
 refine Ac ?_
 refine Ad f Z fun a f=>Ad f Z fun a f=>Aa (Af (Af ?_))
 refine A7 11 AJ (by kernel_rfl) m ?_
 refine Ak 0 11 Z f Z fun a f=>Ak 1 11 Z f Z fun a f=>Ak 2 11 Z f Z fun a f=> ?_
 obtain⟨aa,ab,hd⟩:=bind_some hd
 refine AT 3 11 0 m o0 T27 ab Z f Z Z fun ac a ad f=>Ba 4 11 0 o0 AS ad ab Z f Z fun ae a af f=>Ak 5 11 Z f Z fun a f=>Ak 6 11 Z f Z fun a f=> ?_
 obtain⟨ag,ah,hd⟩:=bind_some hd
 refine AT 7 11 0 m o0 T27 ah Z f Z Z fun ai a aj f=>Ba 8 11 0 o0 AS aj ah Z f Z fun ak a al f=> ?_
 obtain⟨am,an,hd⟩:=bind_some hd
 refine Cd (i:=9) 11 Z (by kernel_rfl) Z f Z Z Z Z Tryz.call76 (fun _ _ w ao m=>Wk.b m (rd1 ao (af.2)) (rd1 ao (al.2)) an) fun a f=>q_p 10 11 Z f (fun _=>AL (f.eval Z) (f.eval Z) AD) fun a f=>AV fun ap w aq m=> ?_
 have af:=(RTg.mono (RI.mono _)) _ _ _ _ aq af
 have al:=(RTg.mono (RI.mono _)) _ _ _ _ aq al
 have o0:=Ow.mono (RTg.mono (RI.mono _)) aq o0
 refine Aa ?_
 rcases Ae hd with⟨ar,hd⟩|⟨ar,hd⟩
 ·refine Am f Z ar ?_
  refine Ac ?_
  refine Ab f Z fun a f=>l_o f (A9 (f.eval Z)) fun a f=>AG 1 0 m Pl3 f Z Z Z Z fun a f=>Ag f Z Z As fun a f=>l_o f (A9 (f.eval Z)) fun a f=>AR 1 0 (ds:=[(.int .i64 (IntKind.i64.wrap (x3_0+1)))]) m Tryz.sizeOf3 f Z Z Z (AM Z A6) Z (Nat.le_of_ble_eq_true Z) Z fun w m=>Aa (Ac ?_)
  refine Ab f Z fun a f=>Ab f Z fun a f=>Ad f Z fun a f=>Ad f Z fun a f=>Aa ?_
  refine Ap ?_
  obtain rfl:=sj hd
  exact⟨[(.int .i64 x2),(.int .i64 x1)],⟨f.get _ _ Z,f.get _ _ Z,trivial⟩,f.defers,_,[it0,Itm.box b3 3 [(.int .i64 (IntKind.i64.wrap (x3_0+1)))]],aq,m,_,Z,Z,o0⟩
 ·refine Ah f Z ar ?_
  refine An ?_
  refine Ac ?_
  refine Ab f Z fun a f=>Ab f Z fun a f=>Ad f Z fun a f=>Ad f Z fun a f=>Aa ?_
  refine Ap ?_
  obtain rfl:=sj hd
  exact⟨[(.int .i64 x1),(.int .i64 x2)],⟨f.get _ _ Z,f.get _ _ Z,trivial⟩,f.defers,_,[it0,Itm.box b3 3 [(.int .i64 x3_0)]],aq,m,_,Z,Z,o0⟩
theorem Wk.H0 {W w:World}{G:GH}{H:List Itm}{v0:Value}{it0:Itm}{b4:Nat}{x0:(List (Value×List Int))}{x1:Int}{x2:Int}{x3:Int}{x4_0:Int}(m:Mem W G w (it0::Itm.box b4 3 [(.int .i64 x4_0)]::H))(o0:Ow (RTg (RI .i64)) 31 G it0 v0 x0){y:Int×((List (Value×List Int)))×Int}(hd:D.H0 x0 x1 x2 x3 x4_0=some y):
  Calls Tryz.prog 141 #[v0,(.int .i64 x1),(.int .i64 x2),(.int .i64 x3),(.pointer (some ⟨b4,0,none⟩)),(.func (.func 76) #[] #[])] w (Res W G H (fun G' Ho v=>∃i0:Itm,Ho=[i0,Itm.box b4 3 [(.int .i64 y.2.2)]]∧v=(.int .i64 y.1)∧Ow (RTg (RI .i64)) 31 G' i0 v0 y.2.1)):=by
 refine Ar (args:=[v0,(.int .i64 x1),(.int .i64 x2),(.int .i64 x3),(.pointer (some ⟨b4,0,none⟩)),(.func (.func 76) #[] #[])]) (N:=41) [.tmp 12] Tryz.func141 Z Z (Nat.le_of_ble_eq_true Z) Z fun a f=> ?_
 unfold D.H0 at hd
 refine Ac ?_
 refine Ad f Z fun a f=>Aa (Ac ?_)
 refine Ab f Z fun a f=>Ab f Z fun a f=>Ab f Z fun a f=>Ab f Z fun a f=>Ab f Z fun a f=> ?_
 obtain⟨aa,ab,hd⟩:=bind_some hd
 refine AF f Z Tryz.call142 (Wk.I m o0 ab) fun ac ad ae w af m ag a f=> ?_
 obtain⟨ah,rfl,rfl,ai⟩:=ag
 refine Ab f Z fun a f=>l_o f (Bt (f.eval Z) Z) fun a f=>l_o f (Bt (f.eval Z) Z) fun a f=>Ad f Z fun a f=>Ad f Z fun a f=>Aa (Ac ?_)
 refine Ab f Z fun a f=>Ab f Z fun a f=>Ab f Z fun a f=>Ab f Z fun a f=>Ab f Z fun a f=> ?_
 obtain⟨aj,ak,hd⟩:=bind_some hd
 refine AF f Z Tryz.call142 (Wk.I m ai ak) fun al am an w ao m ap a f=> ?_
 obtain⟨aq,rfl,rfl,ar⟩:=ap
 refine Ab f Z fun a f=>l_o f (Bt (f.eval Z) Z) fun a f=>l_o f (Bt (f.eval Z) Z) fun a f=>Ad f Z fun a f=>Ad f Z fun a f=>Aa (Ac ?_)
 refine Ab f Z fun a f=>Ab f Z fun a f=>Ab f Z fun a f=>Ab f Z fun a f=>Ab f Z fun a f=> ?_
 obtain⟨au,av,hd⟩:=bind_some hd
 refine AF f Z Tryz.call142 (Wk.I m ar av) fun aw ax ay w az m aA a f=> ?_
 obtain⟨aB,rfl,rfl,aC⟩:=aA
 refine Ab f Z fun a f=>l_o f (Bt (f.eval Z) Z) fun a f=>l_o f (Bt (f.eval Z) Z) fun a f=>Ad f Z fun a f=>Ad f Z fun a f=>Aa (Ac ?_)
 refine Ab f Z fun a f=>Ad f Z fun a f=>Aa ?_
 refine Ap ?_
 obtain rfl:=sj hd
 exact⟨[(.int .i64 au.2.1)],⟨f.get _ _ Z,trivial⟩,f.defers,_,[aB,Itm.box b4 3 [(.int .i64 au.2.2.2)]],(gt af (gt ao az)),m,_,Z,Z,aC⟩
theorem Wk.a0 {W w:World}{G:GH}{H:List Itm}{v0:Value}{it0:Itm}{b2:Nat}{x0:(List (Value×List Int))}{x1:Int}{x2_0:Int}(m:Mem W G w (it0::Itm.box b2 3 [(.int .i64 x2_0)]::H))(o0:Ow (RTg (RI .i64)) 31 G it0 v0 x0){y:Int×((List (Value×List Int)))×Int}(hd:D.a0 x0 x1 x2_0=some y):
  Calls Tryz.prog 140 #[v0,(.int .i64 x1),(.pointer (some ⟨b2,0,none⟩)),(.func (.func 76) #[] #[])] w (Res W G H (fun G' Ho v=>∃i0:Itm,Ho=[i0,Itm.box b2 3 [(.int .i64 y.2.2)]]∧v=(.int .i64 y.1)∧Ow (RTg (RI .i64)) 31 G' i0 v0 y.2.1)):=by
 refine Ar (args:=[v0,(.int .i64 x1),(.pointer (some ⟨b2,0,none⟩)),(.func (.func 76) #[] #[])]) (N:=18) [.tmp 8] Tryz.func140 Z Z (Nat.le_of_ble_eq_true Z) Z fun a f=> ?_
 unfold D.a0 at hd
 refine Ac ?_
 refine Ad f Z fun a f=>Aa (Ac ?_)
 refine Ab f Z fun a f=>Ab f Z fun a f=>Ag f Z Z A3 fun a f=>Ab f Z fun a f=>Ab f Z fun a f=>Ag f Z Z As fun a f=>Ab f Z fun a f=>Ab f Z fun a f=> ?_
 obtain⟨aa,ab,hd⟩:=bind_some hd
 refine AF f Z Tryz.call141 (Wk.H0 m o0 ab) fun ac ad ae w af m ag a f=> ?_
 obtain⟨ah,rfl,rfl,ai⟩:=ag
 refine Ad f Z fun a f=>Aa ?_
 refine Ap ?_
 obtain rfl:=sj hd
 exact⟨[(.int .i64 aa.1)],⟨f.get _ _ Z,trivial⟩,f.defers,_,[ah,Itm.box b2 3 [(.int .i64 aa.2.2)]],af,m,_,Z,Z,ai⟩
theorem Wk.Z0 {W w:World}{G:GH}{H:List Itm}{v0:Value}{it0:Itm}{x0:(List (Value×List Int))}{x1:Int}{x2:Int}(m:Mem W G w (it0::H))(o0:Ow (RTg (RI .i64)) 31 G it0 v0 x0){y:Int×Int×((List (Value×List Int)))}(hd:D.Z0 x0 x1 x2=some y):
  Calls Tryz.prog 129 #[v0,(.int .i64 x1),(.int .i64 x2),(.func (.func 76) #[] #[])] w (Res W G H (fun G' Ho v=>∃i0:Itm,Ho=[i0]∧v= .tuple #[(.int .i64 y.1),(.int .i64 y.2.1)]∧Ow (RTg (RI .i64)) 31 G' i0 v0 y.2.2)):=by
 refine Ar (args:=[v0,(.int .i64 x1),(.int .i64 x2),(.func (.func 76) #[] #[])]) (N:=63) [.tmp 8,.tmp 9] Tryz.func129 Z Z (Nat.le_of_ble_eq_true Z) Z fun a f=> ?_
 unfold D.Z0 at hd
 refine Ac ?_
 refine Ad f Z fun a f=>Ad f Z fun a f=>Aa (Ac ?_)
 refine Ab f Z fun a f=>Ab f Z fun a f=>Ag f Z Z A3 fun a f=>Ad f Z fun a f=>Aa (Ac ?_)
 refine BF (cs:=[(.int .i64 0)]) Tryz.zeroValue3 m f Z Z fun aa w a m f=>Aa (Ac ?_)
 refine Ab f Z fun a f=>Ab f Z fun a f=>Ag f Z Z (b_quo Z) fun a f=>Ag f Z Z Dj fun a f=>Ag f Z Z As fun a f=>Ad f Z fun a f=>Aa (Ac ?_)
 refine Ab f Z fun a f=>Ab f Z fun a f=>Ag f Z Z (b_quo Z) fun a f=>Ag f Z Z Dj fun a f=>Ag f Z Z As fun a f=>Ad f Z fun a f=>Aa (Ac ?_)
 refine Ab f Z fun a f=>Ab f Z fun a f=>Ag f Z Z (b_quo Z) fun a f=>Ag f Z Z Dj fun a f=>Ag f Z Z As fun a f=>Ad f Z fun a f=>Aa (Af (Ac ?_))
 refine Ab f Z fun a f=>Ag f Z Z Ck fun a f=>Aa ?_
 rcases Ae hd with⟨ab,hd⟩|⟨ab,hd⟩
 ·refine Am f Z ab ?_
  refine Af (Ac ?_)
  refine Ab f Z fun a f=>Ag f Z Z Ck fun a f=>Aa ?_
  obtain⟨ac,ad,hd⟩:=bind_some hd
  refine AE (fun a w=>∃ae:List (Value×List Int),∃af:Int,∃ag:Int,∃ah:Int,∃ai:Int,(ae,af,ag,ah,ai)=ac∧∃(aj:GH) (ak:Itm),GLe G aj∧Fr a 63 [(0,v0),(3,(.func (.func 76) #[] #[])),(11,(.pointer (some ⟨aa,0,none⟩))),(12,(.int .i64 af)),(13,(.int .i64 ag)),(14,(.int .i64 ah))]∧Mem W aj w (Itm.box aa 3 [(.int .i64 ai)]::ak::H)∧Ow (RTg (RI .i64)) 31 aj ak v0 ae) ?_ ?_
  ·rcases Ae ad with⟨al,ad⟩|⟨al,ad⟩
   ·refine Am f Z al ?_
    refine Ac ?_
    refine Ab f Z fun a f=>Ab f Z fun a f=>Ab f Z fun a f=> ?_
    have m:=m.front 1 rfl
    obtain⟨am,an,ad⟩:=bind_some ad
    refine AF f Z Tryz.call140 (Wk.a0 m o0 an) fun ao ap aq w ar m au a f=> ?_
    obtain⟨av,rfl,rfl,aw⟩:=au
    refine Ad f Z fun a f=>Aa (Ac ?_)
    refine Ab f Z fun a f=>Ab f Z fun a f=>Ab f Z fun a f=> ?_
    obtain⟨ax,ay,ad⟩:=bind_some ad
    refine AF f Z Tryz.call140 (Wk.a0 m aw ay) fun az aA aB w aC m aD a f=> ?_
    obtain⟨aE,rfl,rfl,aF⟩:=aD
    refine Ad f Z fun a f=>Aa (Aj ?_)
    refine Ab f Z fun a f=>Ab f Z fun a f=>Ab f Z fun a f=> ?_
    obtain⟨aG,aH,ad⟩:=bind_some ad
    refine AF f Z Tryz.call140 (Wk.a0 m aF aH) fun aI aJ aK w aL m aM a f=> ?_
    obtain⟨aN,rfl,rfl,aO⟩:=aM
    refine Ad f Z fun a f=>Aa ?_
    have m:=m.front 1 rfl
    obtain rfl:=sj ad
    exact⟨_,_,_,_,_,Z,_,aN,(gt ar (gt aC aL)),f.k Z,m,aO⟩
   ·refine Ah f Z al ?_
    refine An ?_
    obtain rfl:=sj ad
    exact⟨_,_,_,_,_,Z,_,it0,gr,f.k Z,m,o0⟩
  ·rintro a w ⟨ae,af,ag,ah,ai,rfl,aj,ak,aP,f,m,aQ⟩
   refine Aj ?_
   refine Ab f Z fun a f=>Ab f Z fun a f=>Ab f Z fun a f=>Ab f Z fun a f=>Ab f Z fun a f=> ?_
   have m:=m.front 1 rfl
   obtain⟨aR,aS,hd⟩:=bind_some hd
   refine AF f Z Tryz.call141 (Wk.H0 m aQ aS) fun aT aU aV w aW m aX a f=> ?_
   obtain⟨aY,rfl,rfl,aZ⟩:=aX
   refine Ad f Z fun a f=>Aa (Ac ?_)
   refine AG 1 0 m Pl3 f Z Z Z Z fun a f=>Aa (Ai (Ac ?_))
   refine Ag f Z Z BG fun a f=>Ad f Z fun a f=>Aa ?_
   rcases Ae hd with⟨a0,hd⟩|⟨a0,hd⟩
   ·refine Am f Z a0 ?_
    refine Ac ?_
    refine Ab f Z fun a f=>Ad f Z fun a f=>Ad f Z fun a f=>Aa ?_
    refine Ap ?_
    have m:=m.eraseAt 1
    obtain rfl:=sj hd
    exact⟨[(.int .i64 aR.1),(.int .i64 1)],⟨f.get _ _ Z,f.get _ _ Z,trivial⟩,f.defers,_,[aY],(gt aP aW),m,_,Z,Z,aZ⟩
   ·refine Ah f Z a0 ?_
    refine Ac ?_
    refine Ag f Z Z BG fun a f=>Ad f Z fun a f=>Aa ?_
    rcases Ae hd with⟨a1,hd⟩|⟨a1,hd⟩
    ·refine Am f Z a1 ?_
     refine Ac ?_
     refine Ab f Z fun a f=>Ad f Z fun a f=>Ad f Z fun a f=>Aa ?_
     refine Ap ?_
     have m:=m.eraseAt 1
     obtain rfl:=sj hd
     exact⟨[(.int .i64 aR.1),(.int .i64 2)],⟨f.get _ _ Z,f.get _ _ Z,trivial⟩,f.defers,_,[aY],(gt aP aW),m,_,Z,Z,aZ⟩
    ·refine Ah f Z a1 ?_
     refine Ac ?_
     refine Ab f Z fun a f=>Ad f Z fun a f=>Ad f Z fun a f=>Aa ?_
     refine Ap ?_
     have m:=m.eraseAt 1
     obtain rfl:=sj hd
     exact⟨[(.int .i64 aR.1),(.int .i64 0)],⟨f.get _ _ Z,f.get _ _ Z,trivial⟩,f.defers,_,[aY],(gt aP aW),m,_,Z,Z,aZ⟩
 ·refine Ah f Z ab ?_
  refine An ?_
  refine Ac ?_
  refine AG 0 0 m Pl3 f Z Z Z Z fun a f=>Aa (Ai (Ac ?_))
  refine Ag f Z Z BG fun a f=>Ad f Z fun a f=>Aa ?_
  rcases Ae hd with⟨a2,hd⟩|⟨a2,hd⟩
  ·refine Am f Z a2 ?_
   refine Ac ?_
   refine Ab f Z fun a f=>Ad f Z fun a f=>Ad f Z fun a f=>Aa ?_
   refine Ap ?_
   have m:=m.front 1 rfl
   have m:=m.eraseAt 1
   obtain rfl:=sj hd
   exact⟨[(.int .i64 (IntKind.i64.wrap (x1+(IntKind.i64.wrap ((IntKind.i64.wrap (Int.tdiv (IntKind.i64.wrap (x2-x1)) 4))*2))))),(.int .i64 1)],⟨f.get _ _ Z,f.get _ _ Z,trivial⟩,f.defers,_,[it0],gr,m,_,Z,Z,o0⟩
  ·refine Ah f Z a2 ?_
   refine Ac ?_
   refine Ag f Z Z BG fun a f=>Ad f Z fun a f=>Aa ?_
   rcases Ae hd with⟨a3,hd⟩|⟨a3,hd⟩
   ·refine Am f Z a3 ?_
    refine Ac ?_
    refine Ab f Z fun a f=>Ad f Z fun a f=>Ad f Z fun a f=>Aa ?_
    refine Ap ?_
    have m:=m.front 1 rfl
    have m:=m.eraseAt 1
    obtain rfl:=sj hd
    exact⟨[(.int .i64 (IntKind.i64.wrap (x1+(IntKind.i64.wrap ((IntKind.i64.wrap (Int.tdiv (IntKind.i64.wrap (x2-x1)) 4))*2))))),(.int .i64 2)],⟨f.get _ _ Z,f.get _ _ Z,trivial⟩,f.defers,_,[it0],gr,m,_,Z,Z,o0⟩
   ·refine Ah f Z a3 ?_
    refine Ac ?_
    refine Ab f Z fun a f=>Ad f Z fun a f=>Ad f Z fun a f=>Aa ?_
    refine Ap ?_
    have m:=m.front 1 rfl
    have m:=m.eraseAt 1
    obtain rfl:=sj hd
    exact⟨[(.int .i64 (IntKind.i64.wrap (x1+(IntKind.i64.wrap ((IntKind.i64.wrap (Int.tdiv (IntKind.i64.wrap (x2-x1)) 4))*2))))),(.int .i64 0)],⟨f.get _ _ Z,f.get _ _ Z,trivial⟩,f.defers,_,[it0],gr,m,_,Z,Z,o0⟩
theorem Wk.i1 {W w:World}{G:GH}{H:List Itm}{v0:Value}{it0:Itm}{x0:(List (Value×List Int))}{x1:Int}{x2:Int}(m:Mem W G w (it0::H))(o0:Ow (RTg (RI .i64)) 31 G it0 v0 x0){y:((List (Value×List Int)))}(hd:D.i1 x0 x1 x2=some y):
  Calls Tryz.prog 130 #[v0,(.int .i64 x1),(.int .i64 x2),(.func (.func 76) #[] #[])] w (Res W G H (fun G' Ho _=>∃i0:Itm,Ho=[i0]∧Ow (RTg (RI .i64)) 31 G' i0 v0 y)):=by
 refine Ar (args:=[v0,(.int .i64 x1),(.int .i64 x2),(.func (.func 76) #[] #[])]) (N:=34) [] Tryz.func130 Z Z (Nat.le_of_ble_eq_true Z) Z fun a f=> ?_
 unfold D.i1 at hd
 refine Ac ?_
 refine Ab f Z fun a f=>Ad f Z fun a f=>Aa (Ac ?_)
 refine Ab f Z fun a f=>Ag f Z Z A3 fun a f=>Ad f Z fun a f=>Aa ?_
 obtain⟨aa,ab,hd⟩:=bind_some hd
 refine AE (fun a w=>∃ac:List (Value×List Int),ac=aa∧∃(ad:GH) (ae:Itm),GLe G ad∧Fr a 34 []∧Mem W ad w (ae::H)∧Ow (RTg (RI .i64)) 31 ad ae v0 ac) ?_ ?_
 ·refine Ai ?_
  refine AB (fun af a w=>∃ag:List (Value×List Int),∃ah:Int,∃ai:Int,(ag,ah,ai)=af∧∃(aj:GH) (ak:Itm),GLe G aj∧Fr a 34 [(0,v0),(8,(.int .i64 ah)),(9,(.int .i64 ai))]∧Mem W aj w (ak::H)∧Ow (RTg (RI .i64)) 31 aj ak v0 ag) ab ⟨_,_,_,Z,_,it0,gr,f.k Z,m,o0⟩ ?_
  clear ab f m
  rintro af al am an a w ⟨ag,ah,ai,rfl,aj,ak,ao,f,m,ap⟩
  refine Af (Ac ?_)
  refine Ab f Z fun a f=>Ab f Z fun a f=>Ag f Z Z AD fun a f=>Aa ?_
  rcases Ae am with⟨aq,am⟩|⟨aq,am⟩
  ·refine Am f Z aq ?_
   refine An ?_
   refine Ai (Af ?_)
   refine B3 AJ m ?_
   refine p_p 2 Z (by kernel_rfl) f Z Z Z (fun _=>Bq (f.eval Z)) fun a f=>p_p 3 Z (by kernel_rfl) f Z Z Z (fun _=>Bq (f.eval Z)) fun a f=>B6 12013 11 (by kernel_rfl) Z ?_
   refine Ak 0 12013 Z f Z fun a f=>Ak 1 12013 Z f Z fun a f=>Ak 4 12013 Z f Z fun a f=>Ak 5 12013 Z f Z fun a f=> ?_
   obtain⟨ar,au,am⟩:=bind_some am
   refine AT 6 12013 0 m ap T27 au Z f Z Z fun av a aw f=>Ba 7 12013 0 ap AS aw au Z f Z fun ax a ay f=>Ak 8 12013 Z f Z fun a f=>Ak 9 12013 Z f Z fun a f=> ?_
   obtain⟨az,aA,am⟩:=bind_some am
   refine AT 10 12013 0 m ap T27 aA Z f Z Z fun aB a aC f=>Ba 11 12013 0 ap AS aC aA Z f Z fun aD a aE f=> ?_
   obtain⟨aF,aG,am⟩:=bind_some am
   refine AT 12 12013 0 m ap T27 aG Z f Z Z fun aH a aI f=>AV fun aJ w aK m=> ?_
   have ay:=(RTg.mono (RI.mono _)) _ _ _ _ aK ay
   have aE:=(RTg.mono (RI.mono _)) _ _ _ _ aK aE
   have ap:=Ow.mono (RTg.mono (RI.mono _)) aK ap
   refine AC 0 m ap Z Tryz.sizeOf31 f Z Z aI aG ay.cells ay.one1 ay fun aL w m aM=> ?_
   obtain⟨aN,aO,am⟩:=bind_some am
   refine AQ 0 m aM Z T27 f Z Z Z aO fun aP a aQ f=>AC 0 m aM Z Tryz.sizeOf31 f Z Z aQ aO aE.cells aE.one1 aE fun aR w m aS=>Aa (Ac ?_)
   refine Ab f Z fun a f=>Ag f Z Z As fun a f=>Ad f Z fun a f=>Aa (Aj ?_)
   refine Ab f Z fun a f=>Ag f Z Z A3 fun a f=>Ad f Z fun a f=>Aa ?_
   obtain rfl:=sj am
   exact⟨_,Z,_,_,_,Z,_,aR,(gt ao aK),f.k Z,m,aS⟩
  ·refine Ah f Z aq ?_
   refine Ax Z ?_
   obtain rfl:=sj am
   obtain rfl:=an _ rfl
   exact⟨_,Z,_,ak,ao,f.weak trivial,m,ap⟩
 ·rintro a w ⟨ac,rfl,ad,ae,aT,f,m,aU⟩
  obtain rfl:=sj hd
  exact⟨[],trivial,f.defers,_,[ae],aT,m,_,Z,aU⟩
theorem Wk.e1 {W w:World}{G:GH}{H:List Itm}{v0:Value}{it0:Itm}{x0:(List (Value×List Int))}{x1:Int}{x2:Int}(m:Mem W G w (it0::H))(o0:Ow (RTg (RI .i64)) 31 G it0 v0 x0){y:Bool×((List (Value×List Int)))}(hd:D.e1 x0 x1 x2=some y):
  Calls Tryz.prog 131 #[v0,(.int .i64 x1),(.int .i64 x2),(.func (.func 76) #[] #[])] w (Res W G H (fun G' Ho v=>∃i0:Itm,Ho=[i0]∧v=(.bool y.1)∧Ow (RTg (RI .i64)) 31 G' i0 v0 y.2)):=by
 refine Ar (args:=[v0,(.int .i64 x1),(.int .i64 x2),(.func (.func 76) #[] #[])]) (N:=141) [.tmp 8] Tryz.func131 Z Z (Nat.le_of_ble_eq_true Z) Z fun a f=> ?_
 unfold D.e1 at hd
 refine Ac ?_
 refine Ad f Z fun a f=>Aa (Ac ?_)
 refine Ab f Z fun a f=>Ag f Z Z As fun a f=>Ad f Z fun a f=>Aa (Af (Ac ?_))
 refine Ad f Z fun a f=>Aa ?_
 obtain⟨aa,ab,hd⟩:=bind_some hd
 refine AE (fun a w=>∃q_1621':(List (Value×List Int)),aa= .inl q_1621'∧∃ac:List (Value×List Int),ac=q_1621'∧∃(ad:GH) (ae:Itm),GLe G ad∧Fr a 141 []∧Mem W ad w (ae::H)∧Ow (RTg (RI .i64)) 31 ad ae v0 ac) ?_ ?_
 ·refine Ai ?_
  refine AB (fun af a w=>∃ag:List (Value×List Int),∃ah:Int,∃ai:Int,(ag,ah,ai)=af∧∃(aj:GH) (ak:Itm),GLe G aj∧Fr a 141 [(0,v0),(1,(.int .i64 x1)),(2,(.int .i64 x2)),(3,(.func (.func 76) #[] #[])),(9,(.int .i64 ah)),(10,(.int .i64 ai))]∧Mem W aj w (ak::H)∧Ow (RTg (RI .i64)) 31 aj ak v0 ag) ab ⟨_,_,_,Z,_,it0,gr,f.k Z,m,o0⟩ ?_
  clear ab f m
  rintro af al am an a w ⟨ag,ah,ai,rfl,aj,ak,ao,f,m,ap⟩
  refine Af (Ac ?_)
  refine Ab f Z fun a f=>Ag f Z Z AD fun a f=>Aa ?_
  rcases Ae am with⟨aq,am⟩|⟨aq,am⟩
  ·refine Am f Z aq ?_
   refine An ?_
   refine Af (Ai (Af ?_))
   obtain⟨ar,au,am⟩:=bind_some am
   refine AE (fun a w=>∃av:Int,av=ar∧∃(aw:GH),GLe aj aw∧Fr a 141 [(0,v0),(1,(.int .i64 x1)),(2,(.int .i64 x2)),(3,(.func (.func 76) #[] #[])),(9,(.int .i64 av)),(10,(.int .i64 ai))]∧Mem W aw w (ak::H)) ?_ ?_
   ·refine Ai ?_
    refine AB (fun ax a w=>∃ay:Int,ay=ax∧∃(az:GH),GLe aj az∧Fr a 141 [(0,v0),(1,(.int .i64 x1)),(2,(.int .i64 x2)),(3,(.func (.func 76) #[] #[])),(9,(.int .i64 ay)),(10,(.int .i64 ai))]∧Mem W az w (ak::H)) au ⟨_,Z,_,gr,f.k Z,m⟩ ?_
    clear au f m
    rintro ax aA aB aC a w ⟨ay,rfl,az,aD,f,m⟩
    have ap:=Ow.mono (RTg.mono (RI.mono _)) aD ap
    refine Af (Af ?_)
    refine A7 18 AJ (by kernel_rfl) m ?_
    refine Ak 0 18 Z f Z fun a f=>Ak 1 18 Z f Z fun a f=>q_p 2 18 Z f (fun _=>AL (f.eval Z) (f.eval Z) AD) fun a f=>Ak 3 18 Z f Z fun a f=> ?_
    obtain⟨aE,aF,aB⟩:=bind_some aB
    refine Ci (fuel':=0) (listed':= #[true,true,true,true,true,true,true,true,true,true,true,true,true,true,true,true,true,true]) (fun a=>Fr a 141 [(0,v0),(1,(.int .i64 x1)),(2,(.int .i64 x2)),(3,(.func (.func 76) #[] #[])),(9,(.int .i64 ay)),(10,(.int .i64 ai)),(19,(.int .i64 ay)),(20,(.int .i64 x2)),(21,(.bool (decide (ay<x2)))),(22,(.bool (decide (ay<x2)))),(36,(.bool aE))]) ?_ ?_
    ·intro a f
     refine AV fun aG w aH m=> ?_
     have ap:=Ow.mono (RTg.mono (RI.mono _)) aH ap
     refine Aa ?_
     rcases Ae aB with⟨aI,aB⟩|⟨aI,aB⟩
     ·refine Am f Z aI ?_
      refine An ?_
      refine Ai (Aj ?_)
      refine Ab f Z fun a f=>Ag f Z Z As fun a f=>Ad f Z fun a f=>Aa ?_
      obtain rfl:=sj aB
      exact⟨_,Z,_,Z,_,(gt aD aH),f.k Z,m⟩
     ·refine Ah f Z aI ?_
      refine Ax Z ?_
      obtain rfl:=sj aB
      obtain rfl:=aC _ rfl
      exact⟨_,Z,_,(gt aD aH),f.k Z,m⟩
    ·intro aJ
     rcases Ae aF with⟨aK,aF⟩|⟨aK,aF⟩
     ·refine Ak (hw:=wo f aK) 4 18 Z f Z fun a f=> ?_
      refine Ak (hw:=wo f aK) 5 18 Z f Z fun a f=>Ak (hw:=wo f aK) 6 18 Z f Z fun a f=> ?_
      obtain⟨aL,aM,aF⟩:=bind_some aF
      refine AT (hw:=wo f aK) 7 18 0 m ap T27 aM Z f Z Z fun aN a aO f=>Ba (hw:=wo f aK) 8 18 0 ap AS aO aM Z f Z fun aP a aQ f=>Ak (hw:=wo f aK) 9 18 Z f Z fun a f=>Ak (hw:=wo f aK) 10 18 Z f Z fun a f=>q_p (hw:=wo f aK) 11 18 Z f (fun _=>AL (f.eval Z) (f.eval Z) A3) fun a f=> ?_
      obtain⟨aR,aS,aF⟩:=bind_some aF
      refine AT (hw:=wo f aK) 12 18 0 m ap T27 aS Z f Z Z fun aT a aU f=>Ba (hw:=wo f aK) 13 18 0 ap AS aU aS Z f Z fun aV a aW f=> ?_
      obtain⟨aX,aY,aF⟩:=bind_some aF
      refine Cd (i:=14) 18 Z (by kernel_rfl) Z f (Bg f Z Z Z aK) Z Z Z Tryz.call76 (fun _ _ w aZ m=>Wk.b m (rd1 aZ (aQ.2)) (rd1 aZ (aW.2)) aY) fun a f=>q_p (hw:=wo f aK) 15 18 Z f (fun _=>AL (f.eval Z) (f.eval Z) AD) fun a f=>q_p (hw:=wo f aK) 16 18 Z f (fun _=>Bp (f.eval Z)) fun a f=>q_p 17 18 Z f (fun _=>AN (f.eval Z) aK (f.eval Z)) fun a f=> ?_
      obtain rfl:=sj aF
      exact aJ _ (f.k Z)
     ·refine Aq 4 18 Z f aK fun a f=> ?_
      refine Aq 5 18 Z f aK fun a f=>Aq 6 18 Z f aK fun a f=>Aq 7 18 Z f aK fun a f=>Aq 8 18 Z f aK fun a f=>Aq 9 18 Z f aK fun a f=>Aq 10 18 Z f aK fun a f=>Aq 11 18 Z f aK fun a f=>Aq 12 18 Z f aK fun a f=>Aq 13 18 Z f aK fun a f=>Aq 14 18 Z f aK fun a f=>Aq 15 18 Z f aK fun a f=>Aq 16 18 Z f aK fun a f=>q_p 17 18 Z f (fun _=>AO (f.eval Z) aK (f.eval Z)) fun a f=> ?_
      obtain rfl:=sj aF
      exact aJ _ (f.k Z)
   ·rintro a w ⟨av,rfl,aw,a0,f,m⟩
    have ap:=Ow.mono (RTg.mono (RI.mono _)) a0 ap
    refine Af (Ac ?_)
    refine Ab f Z fun a f=>Ab f Z fun a f=>Ag f Z Z BG fun a f=>Aa ?_
    rcases Ae am with⟨a1,am⟩|⟨a1,am⟩
    ·refine Am f Z a1 ?_
     refine Ac ?_
     refine Ad f Z fun a f=>Aa ?_
     refine Ap ?_
     obtain rfl:=sj am
     obtain rfl:=an _ rfl
     obtain rfl:=sj hd
     exact⟨[(.bool true)],⟨f.get _ _ Z,trivial⟩,f.defers,_,[ak],(gt ao a0),m,_,Z,Z,ap⟩
    ·refine Ah f Z a1 ?_
     refine An ?_
     refine Af (Ac ?_)
     refine Ab f Z fun a f=>Ab f Z fun a f=>Ag f Z Z A3 fun a f=>Ag f Z Z AD fun a f=>Aa ?_
     rcases Ae am with⟨a2,am⟩|⟨a2,am⟩
     ·refine Am f Z a2 ?_
      refine Ac ?_
      refine Ad f Z fun a f=>Aa ?_
      refine Ap ?_
      obtain rfl:=sj am
      obtain rfl:=an _ rfl
      obtain rfl:=sj hd
      exact⟨[(.bool false)],⟨f.get _ _ Z,trivial⟩,f.defers,_,[ak],(gt ao a0),m,_,Z,Z,ap⟩
     ·refine Ah f Z a2 ?_
      refine An ?_
      refine Af ?_
      refine B3 AJ m ?_
      refine p_p 2 Z (by kernel_rfl) f Z Z Z (fun _=>Bq (f.eval Z)) fun a f=>p_p 3 Z (by kernel_rfl) f Z Z Z (fun _=>Bq (f.eval Z)) fun a f=>p_p 4 Z (by kernel_rfl) f Z Z Z (fun _=>AL (f.eval Z) (f.eval Z) A3) fun a f=>B6 28015 12 (by kernel_rfl) Z ?_
      refine Ak 0 28015 Z f Z fun a f=>Ak 1 28015 Z f Z fun a f=>Ak 5 28015 Z f Z fun a f=>Ak 6 28015 Z f Z fun a f=>q_p 7 28015 Z f (fun _=>AL (f.eval Z) (f.eval Z) A3) fun a f=> ?_
      obtain⟨a3,a4,am⟩:=bind_some am
      refine AT 8 28015 0 m ap T27 a4 Z f Z Z fun a5 a a6 f=>Ba 9 28015 0 ap AS a6 a4 Z f Z fun a7 a a8 f=>Ak 10 28015 Z f Z fun a f=>Ak 11 28015 Z f Z fun a f=> ?_
      obtain⟨a9,ba,am⟩:=bind_some am
      refine AT 12 28015 0 m ap T27 ba Z f Z Z fun bb a bc f=>Ba 13 28015 0 ap AS bc ba Z f Z fun bd a be f=> ?_
      obtain⟨bf,bg,am⟩:=bind_some am
      refine AT 14 28015 0 m ap T27 bg Z f Z Z fun bh a bi f=>AV fun bj w bk m=> ?_
      have a8:=(RTg.mono (RI.mono _)) _ _ _ _ bk a8
      have be:=(RTg.mono (RI.mono _)) _ _ _ _ bk be
      have ap:=Ow.mono (RTg.mono (RI.mono _)) bk ap
      refine AC 0 m ap Z Tryz.sizeOf31 f Z Z bi bg a8.cells a8.one1 a8 fun bl w m bm=> ?_
      obtain⟨bn,bo,am⟩:=bind_some am
      refine AQ 0 m bm Z T27 f Z Z Z bo fun bp a bq f=>AC 0 m bm Z Tryz.sizeOf31 f Z Z bq bo be.cells be.one1 be fun br w m bs=>Aa (Af (Ac ?_))
      refine Ab f Z fun a f=>Ab f Z fun a f=>Ag f Z Z A3 fun a f=>Ag f Z Z Ck fun a f=>Aa ?_
      obtain⟨bt,bu,am⟩:=bind_some am
      refine AE (fun a w=>∃bv:List (Value×List Int),bv=bt∧∃(bw:GH) (bx:Itm),GLe bj bw∧Fr a 141 [(0,v0),(1,(.int .i64 x1)),(2,(.int .i64 x2)),(3,(.func (.func 76) #[] #[])),(9,(.int .i64 av)),(10,(.int .i64 ai))]∧Mem W bw w (bx::H)∧Ow (RTg (RI .i64)) 31 bw bx v0 bv) ?_ ?_
      ·rcases Ae bu with⟨bz,bu⟩|⟨bz,bu⟩
       ·refine Am f Z bz ?_
        refine Ac ?_
        refine Ab f Z fun a f=>Ag f Z Z A3 fun a f=>Ad f Z fun a f=>Aa ?_
        obtain⟨bA,bB,bu⟩:=bind_some bu
        refine AE (fun a w=>∃bC:List (Value×List Int),bC=bA∧∃(bD:GH) (bE:Itm),GLe bj bD∧Fr a 141 [(0,v0),(1,(.int .i64 x1)),(2,(.int .i64 x2)),(3,(.func (.func 76) #[] #[])),(9,(.int .i64 av)),(10,(.int .i64 ai))]∧Mem W bD w (bE::H)∧Ow (RTg (RI .i64)) 31 bD bE v0 bC) ?_ ?_
        ·refine Ai ?_
         refine AB (fun bF a w=>∃bG:List (Value×List Int),∃bH:Int,(bG,bH)=bF∧∃(bI:GH) (bJ:Itm),GLe bj bI∧Fr a 141 [(0,v0),(1,(.int .i64 x1)),(2,(.int .i64 x2)),(3,(.func (.func 76) #[] #[])),(9,(.int .i64 av)),(10,(.int .i64 ai)),(11,(.int .i64 bH))]∧Mem W bI w (bJ::H)∧Ow (RTg (RI .i64)) 31 bI bJ v0 bG) bB ⟨_,_,Z,_,br,gr,f.k Z,m,bs⟩ ?_
         clear bB f m
         rintro bF bK bL bM a w ⟨bG,bH,rfl,bI,bJ,bN,f,m,bO⟩
         refine Af (Ac ?_)
         refine Ab f Z fun a f=>Ag f Z Z Ck fun a f=>Aa ?_
         rcases Ae bL with⟨bP,bL⟩|⟨bP,bL⟩
         ·refine Am f Z bP ?_
          refine An ?_
          refine Af (Ai (Af (Af ?_)))
          refine A7 13 AJ (by kernel_rfl) m ?_
          refine Ak 0 13 Z f Z fun a f=>Ak 1 13 Z f Z fun a f=>Ak 2 13 Z f Z fun a f=> ?_
          obtain⟨bQ,bR,bL⟩:=bind_some bL
          refine AT 3 13 0 m bO T27 bR Z f Z Z fun bS a bT f=>Ba 4 13 0 bO AS bT bR Z f Z fun bU a bV f=>Ak 5 13 Z f Z fun a f=>Ak 6 13 Z f Z fun a f=>q_p 7 13 Z f (fun _=>AL (f.eval Z) (f.eval Z) A3) fun a f=> ?_
          obtain⟨bW,bX,bL⟩:=bind_some bL
          refine AT 8 13 0 m bO T27 bX Z f Z Z fun bY a bZ f=>Ba 9 13 0 bO AS bZ bX Z f Z fun b0 a b1 f=> ?_
          obtain⟨b2,b3,bL⟩:=bind_some bL
          refine Cd (i:=10) 13 Z (by kernel_rfl) Z f Z Z Z Z Tryz.call76 (fun _ _ w b4 m=>Wk.b m (rd1 b4 (bV.2)) (rd1 b4 (b1.2)) b3) fun a f=>q_p 11 13 Z f (fun _=>AL (f.eval Z) (f.eval Z) AD) fun a f=>q_p 12 13 Z f (fun _=>Bp (f.eval Z)) fun a f=>AV fun b5 w b6 m=> ?_
          have bV:=(RTg.mono (RI.mono _)) _ _ _ _ b6 bV
          have b1:=(RTg.mono (RI.mono _)) _ _ _ _ b6 b1
          have bO:=Ow.mono (RTg.mono (RI.mono _)) b6 bO
          refine Aa ?_
          rcases Ae bL with⟨b7,bL⟩|⟨b7,bL⟩
          ·refine Am f Z b7 ?_
           refine Ax Z ?_
           obtain rfl:=sj bL
           obtain rfl:=bM _ rfl
           exact⟨_,Z,_,bJ,(gt bN b6),f.k Z,m,bO⟩
          ·refine Ah f Z b7 ?_
           refine An ?_
           refine B3 AJ m ?_
           refine p_p 2 Z (by kernel_rfl) f Z Z Z (fun _=>Bq (f.eval Z)) fun a f=>p_p 3 Z (by kernel_rfl) f Z Z Z (fun _=>Bq (f.eval Z)) fun a f=>p_p 4 Z (by kernel_rfl) f Z Z Z (fun _=>AL (f.eval Z) (f.eval Z) A3) fun a f=>B6 28015 12 (by kernel_rfl) Z ?_
           refine Ak 0 28015 Z f Z fun a f=>Ak 1 28015 Z f Z fun a f=>Ak 5 28015 Z f Z fun a f=>Ak 6 28015 Z f Z fun a f=>q_p 7 28015 Z f (fun _=>AL (f.eval Z) (f.eval Z) A3) fun a f=> ?_
           obtain⟨b8,b9,bL⟩:=bind_some bL
           refine AT 8 28015 0 m bO T27 b9 Z f Z Z fun ca a cb f=>Ba 9 28015 0 bO AS cb b9 Z f Z fun cc a cd f=>Ak 10 28015 Z f Z fun a f=>Ak 11 28015 Z f Z fun a f=> ?_
           obtain⟨ce,cf,bL⟩:=bind_some bL
           refine AT 12 28015 0 m bO T27 cf Z f Z Z fun cg a ch f=>Ba 13 28015 0 bO AS ch cf Z f Z fun ci a cj f=> ?_
           obtain⟨ck,cl,bL⟩:=bind_some bL
           refine AT 14 28015 0 m bO T27 cl Z f Z Z fun cm a cn f=>AV fun co w cp m=> ?_
           have cd:=(RTg.mono (RI.mono _)) _ _ _ _ cp cd
           have cj:=(RTg.mono (RI.mono _)) _ _ _ _ cp cj
           have bO:=Ow.mono (RTg.mono (RI.mono _)) cp bO
           refine AC 0 m bO Z Tryz.sizeOf31 f Z Z cn cl cd.cells cd.one1 cd fun cq w m cr=> ?_
           obtain⟨cs,ct,bL⟩:=bind_some bL
           refine AQ 0 m cr Z T27 f Z Z Z ct fun cu a cv f=>AC 0 m cr Z Tryz.sizeOf31 f Z Z cv ct cj.cells cj.one1 cj fun cw w m cx=>Aa (Aj ?_)
           refine Ab f Z fun a f=>Ag f Z Z A3 fun a f=>Ad f Z fun a f=>Aa ?_
           obtain rfl:=sj bL
           exact⟨_,Z,_,_,Z,_,cw,(gt bN (gt b6 cp)),f.k Z,m,cx⟩
         ·refine Ah f Z bP ?_
          refine Ax Z ?_
          obtain rfl:=sj bL
          obtain rfl:=bM _ rfl
          exact⟨_,Z,_,bJ,bN,f.k Z,m,bO⟩
        ·rintro a w ⟨bC,rfl,bD,bE,cy,f,m,cz⟩
         obtain rfl:=sj bu
         exact⟨_,Z,_,bE,cy,f.k Z,m,cz⟩
       ·refine Ah f Z bz ?_
        refine An ?_
        obtain rfl:=sj bu
        exact⟨_,Z,_,br,gr,f.k Z,m,bs⟩
      ·rintro a w ⟨bv,rfl,bw,bx,cA,f,m,cB⟩
       refine Ac ?_
       refine Ab f Z fun a f=>Ab f Z fun a f=>Ag f Z Z A3 fun a f=>Ag f Z Z Ck fun a f=>Aa ?_
       rcases Ae am with⟨cC,am⟩|⟨cC,am⟩
       ·refine Am f Z cC ?_
        refine Ac ?_
        refine Ab f Z fun a f=>Ag f Z Z As fun a f=>Ad f Z fun a f=>Aa ?_
        obtain⟨cD,cE,am⟩:=bind_some am
        refine AE (fun a w=>∃cF:List (Value×List Int),cF=cD∧∃(cG:GH) (cH:Itm),GLe bw cG∧Fr a 141 [(0,v0),(1,(.int .i64 x1)),(2,(.int .i64 x2)),(3,(.func (.func 76) #[] #[])),(9,(.int .i64 av)),(10,(.int .i64 ai))]∧Mem W cG w (cH::H)∧Ow (RTg (RI .i64)) 31 cG cH v0 cF) ?_ ?_
        ·refine Ai ?_
         refine AB (fun cI a w=>∃cJ:List (Value×List Int),∃cK:Int,(cJ,cK)=cI∧∃(cL:GH) (cM:Itm),GLe bw cL∧Fr a 141 [(0,v0),(1,(.int .i64 x1)),(2,(.int .i64 x2)),(3,(.func (.func 76) #[] #[])),(9,(.int .i64 av)),(10,(.int .i64 ai)),(12,(.int .i64 cK))]∧Mem W cL w (cM::H)∧Ow (RTg (RI .i64)) 31 cL cM v0 cJ) cE ⟨_,_,Z,_,bx,gr,f.k Z,m,cB⟩ ?_
         clear cE f m
         rintro cI cN cO cP a w ⟨cJ,cK,rfl,cL,cM,cQ,f,m,cR⟩
         refine Af (Ac ?_)
         refine Ab f Z fun a f=>Ab f Z fun a f=>Ag f Z Z AD fun a f=>Aa ?_
         rcases Ae cO with⟨cS,cO⟩|⟨cS,cO⟩
         ·refine Am f Z cS ?_
          refine An ?_
          refine Af (Ai (Af (Af ?_)))
          refine A7 13 AJ (by kernel_rfl) m ?_
          refine Ak 0 13 Z f Z fun a f=>Ak 1 13 Z f Z fun a f=>Ak 2 13 Z f Z fun a f=> ?_
          obtain⟨cT,cU,cO⟩:=bind_some cO
          refine AT 3 13 0 m cR T27 cU Z f Z Z fun cV a cW f=>Ba 4 13 0 cR AS cW cU Z f Z fun cX a cY f=>Ak 5 13 Z f Z fun a f=>Ak 6 13 Z f Z fun a f=>q_p 7 13 Z f (fun _=>AL (f.eval Z) (f.eval Z) A3) fun a f=> ?_
          obtain⟨cZ,c0,cO⟩:=bind_some cO
          refine AT 8 13 0 m cR T27 c0 Z f Z Z fun c1 a c2 f=>Ba 9 13 0 cR AS c2 c0 Z f Z fun c3 a c4 f=> ?_
          obtain⟨c5,c6,cO⟩:=bind_some cO
          refine Cd (i:=10) 13 Z (by kernel_rfl) Z f Z Z Z Z Tryz.call76 (fun _ _ w c7 m=>Wk.b m (rd1 c7 (cY.2)) (rd1 c7 (c4.2)) c6) fun a f=>q_p 11 13 Z f (fun _=>AL (f.eval Z) (f.eval Z) AD) fun a f=>q_p 12 13 Z f (fun _=>Bp (f.eval Z)) fun a f=>AV fun c8 w c9 m=> ?_
          have cY:=(RTg.mono (RI.mono _)) _ _ _ _ c9 cY
          have c4:=(RTg.mono (RI.mono _)) _ _ _ _ c9 c4
          have cR:=Ow.mono (RTg.mono (RI.mono _)) c9 cR
          refine Aa ?_
          rcases Ae cO with⟨da,cO⟩|⟨da,cO⟩
          ·refine Am f Z da ?_
           refine Ax Z ?_
           obtain rfl:=sj cO
           obtain rfl:=cP _ rfl
           exact⟨_,Z,_,cM,(gt cQ c9),f.k Z,m,cR⟩
          ·refine Ah f Z da ?_
           refine An ?_
           refine B3 AJ m ?_
           refine p_p 2 Z (by kernel_rfl) f Z Z Z (fun _=>Bq (f.eval Z)) fun a f=>p_p 3 Z (by kernel_rfl) f Z Z Z (fun _=>Bq (f.eval Z)) fun a f=>p_p 4 Z (by kernel_rfl) f Z Z Z (fun _=>AL (f.eval Z) (f.eval Z) A3) fun a f=>B6 28015 12 (by kernel_rfl) Z ?_
           refine Ak 0 28015 Z f Z fun a f=>Ak 1 28015 Z f Z fun a f=>Ak 5 28015 Z f Z fun a f=>Ak 6 28015 Z f Z fun a f=>q_p 7 28015 Z f (fun _=>AL (f.eval Z) (f.eval Z) A3) fun a f=> ?_
           obtain⟨db,dc,cO⟩:=bind_some cO
           refine AT 8 28015 0 m cR T27 dc Z f Z Z fun dd a de f=>Ba 9 28015 0 cR AS de dc Z f Z fun df a dg f=>Ak 10 28015 Z f Z fun a f=>Ak 11 28015 Z f Z fun a f=> ?_
           obtain⟨dh,di,cO⟩:=bind_some cO
           refine AT 12 28015 0 m cR T27 di Z f Z Z fun dj a dk f=>Ba 13 28015 0 cR AS dk di Z f Z fun dl a dm f=> ?_
           obtain⟨dn,dp,cO⟩:=bind_some cO
           refine AT 14 28015 0 m cR T27 dp Z f Z Z fun dq a dr f=>AV fun ds w dt m=> ?_
           have dg:=(RTg.mono (RI.mono _)) _ _ _ _ dt dg
           have dm:=(RTg.mono (RI.mono _)) _ _ _ _ dt dm
           have cR:=Ow.mono (RTg.mono (RI.mono _)) dt cR
           refine AC 0 m cR Z Tryz.sizeOf31 f Z Z dr dp dg.cells dg.one1 dg fun du w m dv=> ?_
           obtain⟨dw,dx,cO⟩:=bind_some cO
           refine AQ 0 m dv Z T27 f Z Z Z dx fun dy a dz f=>AC 0 m dv Z Tryz.sizeOf31 f Z Z dz dx dm.cells dm.one1 dm fun dA w m dB=>Aa (Aj ?_)
           refine Ab f Z fun a f=>Ag f Z Z As fun a f=>Ad f Z fun a f=>Aa ?_
           obtain rfl:=sj cO
           exact⟨_,Z,_,_,Z,_,dA,(gt cQ (gt c9 dt)),f.k Z,m,dB⟩
         ·refine Ah f Z cS ?_
          refine Ax Z ?_
          obtain rfl:=sj cO
          obtain rfl:=cP _ rfl
          exact⟨_,Z,_,cM,cQ,f.k Z,m,cR⟩
        ·rintro a w ⟨cF,rfl,cG,cH,dC,f,m,dD⟩
         refine Aj ?_
         refine Ab f Z fun a f=>Ag f Z Z As fun a f=>Ad f Z fun a f=>Aa ?_
         obtain rfl:=sj am
         exact⟨_,Z,_,_,_,Z,_,cH,(gt ao (gt a0 (gt bk (gt cA dC)))),f.k Z,m,dD⟩
       ·refine Ah f Z cC ?_
        refine An ?_
        refine Aj ?_
        refine Ab f Z fun a f=>Ag f Z Z As fun a f=>Ad f Z fun a f=>Aa ?_
        obtain rfl:=sj am
        exact⟨_,Z,_,_,_,Z,_,bx,(gt ao (gt a0 (gt bk cA))),f.k Z,m,cB⟩
  ·refine Ah f Z aq ?_
   refine Ax Z ?_
   obtain rfl:=sj am
   obtain rfl:=an _ rfl
   exact⟨_,Z,_,Z,_,ak,ao,f.weak trivial,m,ap⟩
 ·rintro a w ⟨_,rfl,ac,rfl,ad,ae,dE,f,m,dF⟩
  refine Ac ?_
  refine Ad f Z fun a f=>Aa ?_
  refine Ap ?_
  obtain rfl:=sj hd
  exact⟨[(.bool false)],⟨f.get _ _ Z,trivial⟩,f.defers,_,[ae],dE,m,_,Z,Z,dF⟩
theorem Wk.b1 {W w:World}{G:GH}{H:List Itm}{v0:Value}{it0:Itm}{x0:(List (Value×List Int))}{x1:Int}{x2:Int}{x3:Int}(m:Mem W G w (it0::H))(o0:Ow (RTg (RI .i64)) 31 G it0 v0 x0){y:Int×((List (Value×List Int)))}(hd:D.b1 x0 x1 x2 x3=some y):
  Calls Tryz.prog 132 #[v0,(.int .i64 x1),(.int .i64 x2),(.int .i64 x3),(.func (.func 76) #[] #[])] w (Res W G H (fun G' Ho v=>∃i0:Itm,Ho=[i0]∧v=(.int .i64 y.1)∧Ow (RTg (RI .i64)) 31 G' i0 v0 y.2)):=by
 refine Ar (args:=[v0,(.int .i64 x1),(.int .i64 x2),(.int .i64 x3),(.func (.func 76) #[] #[])]) (N:=90) [.tmp 10] Tryz.func132 Z Z (Nat.le_of_ble_eq_true Z) Z fun a f=> ?_
 unfold D.b1 at hd
 refine Ac ?_
 refine Ad f Z fun a f=>Aa (Af ?_)
 refine B3 AJ m ?_
 refine p_p 2 Z (by kernel_rfl) f Z Z Z (fun _=>Bq (f.eval Z)) fun a f=>p_p 3 Z (by kernel_rfl) f Z Z Z (fun _=>Bq (f.eval Z)) fun a f=>B6 12013 11 (by kernel_rfl) Z ?_
 refine Ak 0 12013 Z f Z fun a f=>Ak 1 12013 Z f Z fun a f=>Ak 4 12013 Z f Z fun a f=>Ak 5 12013 Z f Z fun a f=> ?_
 obtain⟨aa,ab,hd⟩:=bind_some hd
 refine AT 6 12013 0 m o0 T27 ab Z f Z Z fun ac a ad f=>Ba 7 12013 0 o0 AS ad ab Z f Z fun ae a af f=>Ak 8 12013 Z f Z fun a f=>Ak 9 12013 Z f Z fun a f=> ?_
 obtain⟨ag,ah,hd⟩:=bind_some hd
 refine AT 10 12013 0 m o0 T27 ah Z f Z Z fun ai a aj f=>Ba 11 12013 0 o0 AS aj ah Z f Z fun ak a al f=> ?_
 obtain⟨am,an,hd⟩:=bind_some hd
 refine AT 12 12013 0 m o0 T27 an Z f Z Z fun ao a ap f=>AV fun aq w ar m=> ?_
 have af:=(RTg.mono (RI.mono _)) _ _ _ _ ar af
 have al:=(RTg.mono (RI.mono _)) _ _ _ _ ar al
 have o0:=Ow.mono (RTg.mono (RI.mono _)) ar o0
 refine AC 0 m o0 Z Tryz.sizeOf31 f Z Z ap an af.cells af.one1 af fun au w m av=> ?_
 obtain⟨aw,ax,hd⟩:=bind_some hd
 refine AQ 0 m av Z T27 f Z Z Z ax fun ay a az f=>AC 0 m av Z Tryz.sizeOf31 f Z Z az ax al.cells al.one1 al fun aA w m aB=>Aa (Ac ?_)
 refine Ab f Z fun a f=>Ag f Z Z As fun a f=>Ab f Z fun a f=>Ag f Z Z A3 fun a f=>Ad f Z fun a f=>Ad f Z fun a f=>Aa (Af ?_)
 obtain⟨aC,aD,hd⟩:=bind_some hd
 refine AE (fun a w=>∃aE:List (Value×List Int),∃aF:Int,(aE,aF)=aC∧∃(aG:GH) (aH:Itm),GLe aq aG∧Fr a 90 [(11,(.int .i64 aF))]∧Mem W aG w (aH::H)∧Ow (RTg (RI .i64)) 31 aG aH v0 aE) ?_ ?_
 ·refine Ai ?_
  refine AB (fun aI a w=>∃aJ:List (Value×List Int),∃aK:Int,∃aL:Int,(aJ,aK,aL)=aI∧∃(aM:GH) (aN:Itm),GLe aq aM∧Fr a 90 [(0,v0),(1,(.int .i64 x1)),(4,(.func (.func 76) #[] #[])),(11,(.int .i64 aK)),(12,(.int .i64 aL))]∧Mem W aM w (aN::H)∧Ow (RTg (RI .i64)) 31 aM aN v0 aJ) aD ⟨_,_,_,Z,_,aA,gr,f.k Z,m,aB⟩ ?_
  clear aD f m
  rintro aI aO aP aQ a w ⟨aJ,aK,aL,rfl,aM,aN,aR,f,m,aS⟩
  refine Ai (Af ?_)
  obtain⟨aT,aU,aP⟩:=bind_some aP
  refine AE (fun a w=>∃aV:Int,aV=aT∧∃(aW:GH),GLe aM aW∧Fr a 90 [(0,v0),(1,(.int .i64 x1)),(4,(.func (.func 76) #[] #[])),(11,(.int .i64 aV)),(12,(.int .i64 aL))]∧Mem W aW w (aN::H)) ?_ ?_
  ·refine Ai ?_
   refine AB (fun aX a w=>∃aY:Int,aY=aX∧∃(aZ:GH),GLe aM aZ∧Fr a 90 [(0,v0),(1,(.int .i64 x1)),(4,(.func (.func 76) #[] #[])),(11,(.int .i64 aY)),(12,(.int .i64 aL))]∧Mem W aZ w (aN::H)) aU ⟨_,Z,_,gr,f.k Z,m⟩ ?_
   clear aU f m
   rintro aX a0 a1 a2 a w ⟨aY,rfl,aZ,a3,f,m⟩
   have aS:=Ow.mono (RTg.mono (RI.mono _)) a3 aS
   refine Af (Af ?_)
   refine A7 17 AJ (by kernel_rfl) m ?_
   refine Ak 0 17 Z f Z fun a f=>Ak 1 17 Z f Z fun a f=>q_p 2 17 Z f (fun _=>AL (f.eval Z) (f.eval Z) Cm) fun a f=>Ak 3 17 Z f Z fun a f=> ?_
   obtain⟨a4,a5,a1⟩:=bind_some a1
   refine Ci (fuel':=0) (listed':= #[true,true,true,true,true,true,true,true,true,true,true,true,true,true,true,true,true]) (fun a=>Fr a 90 [(0,v0),(1,(.int .i64 x1)),(4,(.func (.func 76) #[] #[])),(11,(.int .i64 aY)),(12,(.int .i64 aL)),(31,(.int .i64 aY)),(32,(.int .i64 aL)),(33,(.bool (decide (aY≤aL)))),(34,(.bool (decide (aY≤aL)))),(47,(.bool a4))]) ?_ ?_
   ·intro a f
    refine AV fun a6 w a7 m=> ?_
    have aS:=Ow.mono (RTg.mono (RI.mono _)) a7 aS
    refine Aa ?_
    rcases Ae a1 with⟨a8,a1⟩|⟨a8,a1⟩
    ·refine Am f Z a8 ?_
     refine An ?_
     refine Ai (Aj ?_)
     refine Ab f Z fun a f=>Ag f Z Z As fun a f=>Ad f Z fun a f=>Aa ?_
     obtain rfl:=sj a1
     exact⟨_,Z,_,Z,_,(gt a3 a7),f.k Z,m⟩
    ·refine Ah f Z a8 ?_
     refine Ax Z ?_
     obtain rfl:=sj a1
     obtain rfl:=a2 _ rfl
     exact⟨_,Z,_,(gt a3 a7),f.k Z,m⟩
   ·intro a9
    rcases Ae a5 with⟨ba,a5⟩|⟨ba,a5⟩
    ·refine Ak (hw:=wo f ba) 4 17 Z f Z fun a f=> ?_
     refine Ak (hw:=wo f ba) 5 17 Z f Z fun a f=>Ak (hw:=wo f ba) 6 17 Z f Z fun a f=> ?_
     obtain⟨bb,bc,a5⟩:=bind_some a5
     refine AT (hw:=wo f ba) 7 17 0 m aS T27 bc Z f Z Z fun bd a be f=>Ba (hw:=wo f ba) 8 17 0 aS AS be bc Z f Z fun bf a bg f=>Ak (hw:=wo f ba) 9 17 Z f Z fun a f=>Ak (hw:=wo f ba) 10 17 Z f Z fun a f=> ?_
     obtain⟨bh,bi,a5⟩:=bind_some a5
     refine AT (hw:=wo f ba) 11 17 0 m aS T27 bi Z f Z Z fun bj a bk f=>Ba (hw:=wo f ba) 12 17 0 aS AS bk bi Z f Z fun bl a bm f=> ?_
     obtain⟨bn,bo,a5⟩:=bind_some a5
     refine Cd (i:=13) 17 Z (by kernel_rfl) Z f (Bg f Z Z Z ba) Z Z Z Tryz.call76 (fun _ _ w bp m=>Wk.b m (rd1 bp (bg.2)) (rd1 bp (bm.2)) bo) fun a f=>q_p (hw:=wo f ba) 14 17 Z f (fun _=>AL (f.eval Z) (f.eval Z) AD) fun a f=>q_p (hw:=wo f ba) 15 17 Z f (fun _=>Bp (f.eval Z)) fun a f=>q_p 16 17 Z f (fun _=>AN (f.eval Z) ba (f.eval Z)) fun a f=> ?_
     obtain rfl:=sj a5
     exact a9 _ (f.k Z)
    ·refine Aq 4 17 Z f ba fun a f=> ?_
     refine Aq 5 17 Z f ba fun a f=>Aq 6 17 Z f ba fun a f=>Aq 7 17 Z f ba fun a f=>Aq 8 17 Z f ba fun a f=>Aq 9 17 Z f ba fun a f=>Aq 10 17 Z f ba fun a f=>Aq 11 17 Z f ba fun a f=>Aq 12 17 Z f ba fun a f=>Aq 13 17 Z f ba fun a f=>Aq 14 17 Z f ba fun a f=>Aq 15 17 Z f ba fun a f=>q_p 16 17 Z f (fun _=>AO (f.eval Z) ba (f.eval Z)) fun a f=> ?_
     obtain rfl:=sj a5
     exact a9 _ (f.k Z)
  ·rintro a w ⟨aV,rfl,aW,bq,f,m⟩
   have aS:=Ow.mono (RTg.mono (RI.mono _)) bq aS
   refine Af ?_
   obtain⟨br,bs,aP⟩:=bind_some aP
   refine AE (fun a w=>∃bt:Int,bt=br∧∃(bu:GH),GLe aW bu∧Fr a 90 [(0,v0),(1,(.int .i64 x1)),(4,(.func (.func 76) #[] #[])),(11,(.int .i64 aV)),(12,(.int .i64 bt))]∧Mem W bu w (aN::H)) ?_ ?_
   ·refine Ai ?_
    refine AB (fun bv a w=>∃bw:Int,bw=bv∧∃(bx:GH),GLe aW bx∧Fr a 90 [(0,v0),(1,(.int .i64 x1)),(4,(.func (.func 76) #[] #[])),(11,(.int .i64 aV)),(12,(.int .i64 bw))]∧Mem W bx w (aN::H)) bs ⟨_,Z,_,gr,f.k Z,m⟩ ?_
    clear bs f m
    rintro bv bz bA bB a w ⟨bw,rfl,bx,bC,f,m⟩
    have aS:=Ow.mono (RTg.mono (RI.mono _)) bC aS
    refine Af (Af ?_)
    refine A7 16 AJ (by kernel_rfl) m ?_
    refine Ak 0 16 Z f Z fun a f=>Ak 1 16 Z f Z fun a f=>q_p 2 16 Z f (fun _=>AL (f.eval Z) (f.eval Z) Cm) fun a f=>Ak 3 16 Z f Z fun a f=> ?_
    obtain⟨bD,bE,bA⟩:=bind_some bA
    refine Ci (fuel':=0) (listed':= #[true,true,true,true,true,true,true,true,true,true,true,true,true,true,true,true]) (fun a=>Fr a 90 [(0,v0),(1,(.int .i64 x1)),(4,(.func (.func 76) #[] #[])),(11,(.int .i64 aV)),(12,(.int .i64 bw)),(50,(.int .i64 aV)),(51,(.int .i64 bw)),(52,(.bool (decide (aV≤bw)))),(53,(.bool (decide (aV≤bw)))),(65,(.bool bD))]) ?_ ?_
    ·intro a f
     refine AV fun bF w bG m=> ?_
     have aS:=Ow.mono (RTg.mono (RI.mono _)) bG aS
     refine Aa ?_
     rcases Ae bA with⟨bH,bA⟩|⟨bH,bA⟩
     ·refine Am f Z bH ?_
      refine An ?_
      refine Ai (Aj ?_)
      refine Ab f Z fun a f=>Ag f Z Z A3 fun a f=>Ad f Z fun a f=>Aa ?_
      obtain rfl:=sj bA
      exact⟨_,Z,_,Z,_,(gt bC bG),f.k Z,m⟩
     ·refine Ah f Z bH ?_
      refine Ax Z ?_
      obtain rfl:=sj bA
      obtain rfl:=bB _ rfl
      exact⟨_,Z,_,(gt bC bG),f.k Z,m⟩
    ·intro bI
     rcases Ae bE with⟨bJ,bE⟩|⟨bJ,bE⟩
     ·refine Ak (hw:=wo f bJ) 4 16 Z f Z fun a f=> ?_
      refine Ak (hw:=wo f bJ) 5 16 Z f Z fun a f=>Ak (hw:=wo f bJ) 6 16 Z f Z fun a f=> ?_
      obtain⟨bK,bL,bE⟩:=bind_some bE
      refine AT (hw:=wo f bJ) 7 16 0 m aS T27 bL Z f Z Z fun bM a bN f=>Ba (hw:=wo f bJ) 8 16 0 aS AS bN bL Z f Z fun bO a bP f=>Ak (hw:=wo f bJ) 9 16 Z f Z fun a f=>Ak (hw:=wo f bJ) 10 16 Z f Z fun a f=> ?_
      obtain⟨bQ,bR,bE⟩:=bind_some bE
      refine AT (hw:=wo f bJ) 11 16 0 m aS T27 bR Z f Z Z fun bS a bT f=>Ba (hw:=wo f bJ) 12 16 0 aS AS bT bR Z f Z fun bU a bV f=> ?_
      obtain⟨bW,bX,bE⟩:=bind_some bE
      refine Cd (i:=13) 16 Z (by kernel_rfl) Z f (Bg f Z Z Z bJ) Z Z Z Tryz.call76 (fun _ _ w bY m=>Wk.b m (rd1 bY (bP.2)) (rd1 bY (bV.2)) bX) fun a f=>q_p (hw:=wo f bJ) 14 16 Z f (fun _=>AL (f.eval Z) (f.eval Z) AD) fun a f=>q_p 15 16 Z f (fun _=>AN (f.eval Z) bJ (f.eval Z)) fun a f=> ?_
      obtain rfl:=sj bE
      exact bI _ (f.k Z)
     ·refine Aq 4 16 Z f bJ fun a f=> ?_
      refine Aq 5 16 Z f bJ fun a f=>Aq 6 16 Z f bJ fun a f=>Aq 7 16 Z f bJ fun a f=>Aq 8 16 Z f bJ fun a f=>Aq 9 16 Z f bJ fun a f=>Aq 10 16 Z f bJ fun a f=>Aq 11 16 Z f bJ fun a f=>Aq 12 16 Z f bJ fun a f=>Aq 13 16 Z f bJ fun a f=>Aq 14 16 Z f bJ fun a f=>q_p 15 16 Z f (fun _=>AO (f.eval Z) bJ (f.eval Z)) fun a f=> ?_
      obtain rfl:=sj bE
      exact bI _ (f.k Z)
   ·rintro a w ⟨bt,rfl,bu,bZ,f,m⟩
    have aS:=Ow.mono (RTg.mono (RI.mono _)) bZ aS
    refine Af (Ac ?_)
    refine Ab f Z fun a f=>Ab f Z fun a f=>Ag f Z Z Cc fun a f=>Aa ?_
    rcases Ae aP with⟨b0,aP⟩|⟨b0,aP⟩
    ·refine Am f Z b0 ?_
     refine Ax Z ?_
     obtain rfl:=sj aP
     obtain rfl:=aQ _ rfl
     exact⟨_,_,Z,_,aN,(gt aR (gt bq bZ)),f.k Z,m,aS⟩
    ·refine Ah f Z b0 ?_
     refine An ?_
     refine Af ?_
     refine B3 AJ m ?_
     refine p_p 2 Z (by kernel_rfl) f Z Z Z (fun _=>Bq (f.eval Z)) fun a f=>p_p 3 Z (by kernel_rfl) f Z Z Z (fun _=>Bq (f.eval Z)) fun a f=>B6 12013 11 (by kernel_rfl) Z ?_
     refine Ak 0 12013 Z f Z fun a f=>Ak 1 12013 Z f Z fun a f=>Ak 4 12013 Z f Z fun a f=>Ak 5 12013 Z f Z fun a f=> ?_
     obtain⟨b1,b2,aP⟩:=bind_some aP
     refine AT 6 12013 0 m aS T27 b2 Z f Z Z fun b3 a b4 f=>Ba 7 12013 0 aS AS b4 b2 Z f Z fun b5 a b6 f=>Ak 8 12013 Z f Z fun a f=>Ak 9 12013 Z f Z fun a f=> ?_
     obtain⟨b7,b8,aP⟩:=bind_some aP
     refine AT 10 12013 0 m aS T27 b8 Z f Z Z fun b9 a ca f=>Ba 11 12013 0 aS AS ca b8 Z f Z fun cb a cc f=> ?_
     obtain⟨cd,ce,aP⟩:=bind_some aP
     refine AT 12 12013 0 m aS T27 ce Z f Z Z fun cf a cg f=>AV fun ch w ci m=> ?_
     have b6:=(RTg.mono (RI.mono _)) _ _ _ _ ci b6
     have cc:=(RTg.mono (RI.mono _)) _ _ _ _ ci cc
     have aS:=Ow.mono (RTg.mono (RI.mono _)) ci aS
     refine AC 0 m aS Z Tryz.sizeOf31 f Z Z cg ce b6.cells b6.one1 b6 fun cj w m ck=> ?_
     obtain⟨cl,cm,aP⟩:=bind_some aP
     refine AQ 0 m ck Z T27 f Z Z Z cm fun cn a co f=>AC 0 m ck Z Tryz.sizeOf31 f Z Z co cm cc.cells cc.one1 cc fun cp w m cq=>Aa (Ac ?_)
     refine Ab f Z fun a f=>Ag f Z Z As fun a f=>Ad f Z fun a f=>Aa (Aj ?_)
     refine Ab f Z fun a f=>Ag f Z Z A3 fun a f=>Ad f Z fun a f=>Aa ?_
     obtain rfl:=sj aP
     exact⟨_,Z,_,_,_,Z,_,cp,(gt aR (gt bq (gt bZ ci))),f.k Z,m,cq⟩
 ·rintro a w ⟨aE,aF,rfl,aG,aH,cr,f,m,cs⟩
  refine Ac ?_
  refine Ab f Z fun a f=>Ad f Z fun a f=>Aa ?_
  refine Ap ?_
  obtain rfl:=sj hd
  exact⟨[(.int .i64 aF)],⟨f.get _ _ Z,trivial⟩,f.defers,_,[aH],(gt ar cr),m,_,Z,Z,cs⟩
theorem Wk.m1 {W w:World}{G:GH}{H:List Itm}{v0:Value}{it0:Itm}{x0:(List (Value×List Int))}{x1:Int}{x2:Int}{x3:Int}(m:Mem W G w (it0::H))(o0:Ow (RTg (RI .i64)) 31 G it0 v0 x0){y:Int×Bool×((List (Value×List Int)))}(hd:D.m1 x0 x1 x2 x3=some y):
  Calls Tryz.prog 133 #[v0,(.int .i64 x1),(.int .i64 x2),(.int .i64 x3),(.func (.func 76) #[] #[])] w (Res W G H (fun G' Ho v=>∃i0:Itm,Ho=[i0]∧v= .tuple #[(.int .i64 y.1),(.bool y.2.1)]∧Ow (RTg (RI .i64)) 31 G' i0 v0 y.2.2)):=by
 refine Ar (args:=[v0,(.int .i64 x1),(.int .i64 x2),(.int .i64 x3),(.func (.func 76) #[] #[])]) (N:=178) [.tmp 10,.tmp 11] Tryz.func133 Z Z (Nat.le_of_ble_eq_true Z) Z fun a f=> ?_
 unfold D.m1 at hd
 refine Ac ?_
 refine Ad f Z fun a f=>Ad f Z fun a f=>Aa (Af ?_)
 refine B3 AJ m ?_
 refine p_p 2 Z (by kernel_rfl) f Z Z Z (fun _=>Bq (f.eval Z)) fun a f=>p_p 3 Z (by kernel_rfl) f Z Z Z (fun _=>Bq (f.eval Z)) fun a f=>B6 12013 11 (by kernel_rfl) Z ?_
 refine Ak 0 12013 Z f Z fun a f=>Ak 1 12013 Z f Z fun a f=>Ak 4 12013 Z f Z fun a f=>Ak 5 12013 Z f Z fun a f=> ?_
 obtain⟨aa,ab,hd⟩:=bind_some hd
 refine AT 6 12013 0 m o0 T27 ab Z f Z Z fun ac a ad f=>Ba 7 12013 0 o0 AS ad ab Z f Z fun ae a af f=>Ak 8 12013 Z f Z fun a f=>Ak 9 12013 Z f Z fun a f=> ?_
 obtain⟨ag,ah,hd⟩:=bind_some hd
 refine AT 10 12013 0 m o0 T27 ah Z f Z Z fun ai a aj f=>Ba 11 12013 0 o0 AS aj ah Z f Z fun ak a al f=> ?_
 obtain⟨am,an,hd⟩:=bind_some hd
 refine AT 12 12013 0 m o0 T27 an Z f Z Z fun ao a ap f=>AV fun aq w ar m=> ?_
 have af:=(RTg.mono (RI.mono _)) _ _ _ _ ar af
 have al:=(RTg.mono (RI.mono _)) _ _ _ _ ar al
 have o0:=Ow.mono (RTg.mono (RI.mono _)) ar o0
 refine AC 0 m o0 Z Tryz.sizeOf31 f Z Z ap an af.cells af.one1 af fun au w m av=> ?_
 obtain⟨aw,ax,hd⟩:=bind_some hd
 refine AQ 0 m av Z T27 f Z Z Z ax fun ay a az f=>AC 0 m av Z Tryz.sizeOf31 f Z Z az ax al.cells al.one1 al fun aA w m aB=>Aa (Ac ?_)
 refine Ab f Z fun a f=>Ag f Z Z As fun a f=>Ab f Z fun a f=>Ag f Z Z A3 fun a f=>Ad f Z fun a f=>Ad f Z fun a f=>Aa (Af ?_)
 obtain⟨aC,aD,hd⟩:=bind_some hd
 refine AE (fun a w=>∃aE:Int,aE=aC∧∃(aF:GH),GLe aq aF∧Fr a 178 [(0,v0),(1,(.int .i64 x1)),(4,(.func (.func 76) #[] #[])),(12,(.int .i64 aE)),(13,(.int .i64 (IntKind.i64.wrap (x2-1))))]∧Mem W aF w (aA::H)) ?_ ?_
 ·refine Ai ?_
  refine AB (fun aG a w=>∃aH:Int,aH=aG∧∃(aI:GH),GLe aq aI∧Fr a 178 [(0,v0),(1,(.int .i64 x1)),(4,(.func (.func 76) #[] #[])),(12,(.int .i64 aH)),(13,(.int .i64 (IntKind.i64.wrap (x2-1))))]∧Mem W aI w (aA::H)) aD ⟨_,Z,_,gr,f.k Z,m⟩ ?_
  clear aD f m
  rintro aG aJ aK aL a w ⟨aH,rfl,aI,aM,f,m⟩
  have aB:=Ow.mono (RTg.mono (RI.mono _)) aM aB
  refine Af (Af ?_)
  refine A7 16 AJ (by kernel_rfl) m ?_
  refine Ak 0 16 Z f Z fun a f=>Ak 1 16 Z f Z fun a f=>q_p 2 16 Z f (fun _=>AL (f.eval Z) (f.eval Z) Cm) fun a f=>Ak 3 16 Z f Z fun a f=> ?_
  obtain⟨aN,aO,aK⟩:=bind_some aK
  refine Ci (fuel':=0) (listed':= #[true,true,true,true,true,true,true,true,true,true,true,true,true,true,true,true]) (fun a=>Fr a 178 [(0,v0),(1,(.int .i64 x1)),(4,(.func (.func 76) #[] #[])),(12,(.int .i64 aH)),(13,(.int .i64 (IntKind.i64.wrap (x2-1)))),(32,(.int .i64 aH)),(33,(.int .i64 (IntKind.i64.wrap (x2-1)))),(34,(.bool (decide (aH≤(IntKind.i64.wrap (x2-1)))))),(35,(.bool (decide (aH≤(IntKind.i64.wrap (x2-1)))))),(47,(.bool aN))]) ?_ ?_
  ·intro a f
   refine AV fun aP w aQ m=> ?_
   have aB:=Ow.mono (RTg.mono (RI.mono _)) aQ aB
   refine Aa ?_
   rcases Ae aK with⟨aR,aK⟩|⟨aR,aK⟩
   ·refine Am f Z aR ?_
    refine An ?_
    refine Ai (Aj ?_)
    refine Ab f Z fun a f=>Ag f Z Z As fun a f=>Ad f Z fun a f=>Aa ?_
    obtain rfl:=sj aK
    exact⟨_,Z,_,Z,_,(gt aM aQ),f.k Z,m⟩
   ·refine Ah f Z aR ?_
    refine Ax Z ?_
    obtain rfl:=sj aK
    obtain rfl:=aL _ rfl
    exact⟨_,Z,_,(gt aM aQ),f.k Z,m⟩
  ·intro aS
   rcases Ae aO with⟨aT,aO⟩|⟨aT,aO⟩
   ·refine Ak (hw:=wo f aT) 4 16 Z f Z fun a f=> ?_
    refine Ak (hw:=wo f aT) 5 16 Z f Z fun a f=>Ak (hw:=wo f aT) 6 16 Z f Z fun a f=> ?_
    obtain⟨aU,aV,aO⟩:=bind_some aO
    refine AT (hw:=wo f aT) 7 16 0 m aB T27 aV Z f Z Z fun aW a aX f=>Ba (hw:=wo f aT) 8 16 0 aB AS aX aV Z f Z fun aY a aZ f=>Ak (hw:=wo f aT) 9 16 Z f Z fun a f=>Ak (hw:=wo f aT) 10 16 Z f Z fun a f=> ?_
    obtain⟨a0,a1,aO⟩:=bind_some aO
    refine AT (hw:=wo f aT) 11 16 0 m aB T27 a1 Z f Z Z fun a2 a a3 f=>Ba (hw:=wo f aT) 12 16 0 aB AS a3 a1 Z f Z fun a4 a a5 f=> ?_
    obtain⟨a6,a7,aO⟩:=bind_some aO
    refine Cd (i:=13) 16 Z (by kernel_rfl) Z f (Bg f Z Z Z aT) Z Z Z Tryz.call76 (fun _ _ w a8 m=>Wk.b m (rd1 a8 (aZ.2)) (rd1 a8 (a5.2)) a7) fun a f=>q_p (hw:=wo f aT) 14 16 Z f (fun _=>AL (f.eval Z) (f.eval Z) AD) fun a f=>q_p 15 16 Z f (fun _=>AN (f.eval Z) aT (f.eval Z)) fun a f=> ?_
    obtain rfl:=sj aO
    exact aS _ (f.k Z)
   ·refine Aq 4 16 Z f aT fun a f=> ?_
    refine Aq 5 16 Z f aT fun a f=>Aq 6 16 Z f aT fun a f=>Aq 7 16 Z f aT fun a f=>Aq 8 16 Z f aT fun a f=>Aq 9 16 Z f aT fun a f=>Aq 10 16 Z f aT fun a f=>Aq 11 16 Z f aT fun a f=>Aq 12 16 Z f aT fun a f=>Aq 13 16 Z f aT fun a f=>Aq 14 16 Z f aT fun a f=>q_p 15 16 Z f (fun _=>AO (f.eval Z) aT (f.eval Z)) fun a f=> ?_
    obtain rfl:=sj aO
    exact aS _ (f.k Z)
 ·rintro a w ⟨aE,rfl,aF,a9,f,m⟩
  have aB:=Ow.mono (RTg.mono (RI.mono _)) a9 aB
  refine Af ?_
  obtain⟨ba,bb,hd⟩:=bind_some hd
  refine AE (fun a w=>∃bc:Int,bc=ba∧∃(bd:GH),GLe aF bd∧Fr a 178 [(0,v0),(1,(.int .i64 x1)),(4,(.func (.func 76) #[] #[])),(12,(.int .i64 aE)),(13,(.int .i64 bc))]∧Mem W bd w (aA::H)) ?_ ?_
  ·refine Ai ?_
   refine AB (fun be a w=>∃bf:Int,bf=be∧∃(bg:GH),GLe aF bg∧Fr a 178 [(0,v0),(1,(.int .i64 x1)),(4,(.func (.func 76) #[] #[])),(12,(.int .i64 aE)),(13,(.int .i64 bf))]∧Mem W bg w (aA::H)) bb ⟨_,Z,_,gr,f.k Z,m⟩ ?_
   clear bb f m
   rintro be bh bi bj a w ⟨bf,rfl,bg,bk,f,m⟩
   have aB:=Ow.mono (RTg.mono (RI.mono _)) bk aB
   refine Af (Af ?_)
   refine A7 17 AJ (by kernel_rfl) m ?_
   refine Ak 0 17 Z f Z fun a f=>Ak 1 17 Z f Z fun a f=>q_p 2 17 Z f (fun _=>AL (f.eval Z) (f.eval Z) Cm) fun a f=>Ak 3 17 Z f Z fun a f=> ?_
   obtain⟨bl,bm,bi⟩:=bind_some bi
   refine Ci (fuel':=0) (listed':= #[true,true,true,true,true,true,true,true,true,true,true,true,true,true,true,true,true]) (fun a=>Fr a 178 [(0,v0),(1,(.int .i64 x1)),(4,(.func (.func 76) #[] #[])),(12,(.int .i64 aE)),(13,(.int .i64 bf)),(50,(.int .i64 aE)),(51,(.int .i64 bf)),(52,(.bool (decide (aE≤bf)))),(53,(.bool (decide (aE≤bf)))),(66,(.bool bl))]) ?_ ?_
   ·intro a f
    refine AV fun bn w bo m=> ?_
    have aB:=Ow.mono (RTg.mono (RI.mono _)) bo aB
    refine Aa ?_
    rcases Ae bi with⟨bp,bi⟩|⟨bp,bi⟩
    ·refine Am f Z bp ?_
     refine An ?_
     refine Ai (Aj ?_)
     refine Ab f Z fun a f=>Ag f Z Z A3 fun a f=>Ad f Z fun a f=>Aa ?_
     obtain rfl:=sj bi
     exact⟨_,Z,_,Z,_,(gt bk bo),f.k Z,m⟩
    ·refine Ah f Z bp ?_
     refine Ax Z ?_
     obtain rfl:=sj bi
     obtain rfl:=bj _ rfl
     exact⟨_,Z,_,(gt bk bo),f.k Z,m⟩
   ·intro bq
    rcases Ae bm with⟨br,bm⟩|⟨br,bm⟩
    ·refine Ak (hw:=wo f br) 4 17 Z f Z fun a f=> ?_
     refine Ak (hw:=wo f br) 5 17 Z f Z fun a f=>Ak (hw:=wo f br) 6 17 Z f Z fun a f=> ?_
     obtain⟨bs,bt,bm⟩:=bind_some bm
     refine AT (hw:=wo f br) 7 17 0 m aB T27 bt Z f Z Z fun bu a bv f=>Ba (hw:=wo f br) 8 17 0 aB AS bv bt Z f Z fun bw a bx f=>Ak (hw:=wo f br) 9 17 Z f Z fun a f=>Ak (hw:=wo f br) 10 17 Z f Z fun a f=> ?_
     obtain⟨bz,bA,bm⟩:=bind_some bm
     refine AT (hw:=wo f br) 11 17 0 m aB T27 bA Z f Z Z fun bB a bC f=>Ba (hw:=wo f br) 12 17 0 aB AS bC bA Z f Z fun bD a bE f=> ?_
     obtain⟨bF,bG,bm⟩:=bind_some bm
     refine Cd (i:=13) 17 Z (by kernel_rfl) Z f (Bg f Z Z Z br) Z Z Z Tryz.call76 (fun _ _ w bH m=>Wk.b m (rd1 bH (bx.2)) (rd1 bH (bE.2)) bG) fun a f=>q_p (hw:=wo f br) 14 17 Z f (fun _=>AL (f.eval Z) (f.eval Z) AD) fun a f=>q_p (hw:=wo f br) 15 17 Z f (fun _=>Bp (f.eval Z)) fun a f=>q_p 16 17 Z f (fun _=>AN (f.eval Z) br (f.eval Z)) fun a f=> ?_
     obtain rfl:=sj bm
     exact bq _ (f.k Z)
    ·refine Aq 4 17 Z f br fun a f=> ?_
     refine Aq 5 17 Z f br fun a f=>Aq 6 17 Z f br fun a f=>Aq 7 17 Z f br fun a f=>Aq 8 17 Z f br fun a f=>Aq 9 17 Z f br fun a f=>Aq 10 17 Z f br fun a f=>Aq 11 17 Z f br fun a f=>Aq 12 17 Z f br fun a f=>Aq 13 17 Z f br fun a f=>Aq 14 17 Z f br fun a f=>Aq 15 17 Z f br fun a f=>q_p 16 17 Z f (fun _=>AO (f.eval Z) br (f.eval Z)) fun a f=> ?_
     obtain rfl:=sj bm
     exact bq _ (f.k Z)
  ·rintro a w ⟨bc,rfl,bd,bI,f,m⟩
   have aB:=Ow.mono (RTg.mono (RI.mono _)) bI aB
   refine Af (Ac ?_)
   refine Ab f Z fun a f=>Ab f Z fun a f=>Ag f Z Z Cc fun a f=>Aa ?_
   rcases Ae hd with⟨bJ,hd⟩|⟨bJ,hd⟩
   ·refine Am f Z bJ ?_
    refine Af ?_
    refine B3 AJ m ?_
    refine p_p 2 Z (by kernel_rfl) f Z Z Z (fun _=>Bq (f.eval Z)) fun a f=>p_p 3 Z (by kernel_rfl) f Z Z Z (fun _=>Bq (f.eval Z)) fun a f=>B6 12013 11 (by kernel_rfl) Z ?_
    refine Ak 0 12013 Z f Z fun a f=>Ak 1 12013 Z f Z fun a f=>Ak 4 12013 Z f Z fun a f=>Ak 5 12013 Z f Z fun a f=> ?_
    obtain⟨bK,bL,hd⟩:=bind_some hd
    refine AT 6 12013 0 m aB T27 bL Z f Z Z fun bM a bN f=>Ba 7 12013 0 aB AS bN bL Z f Z fun bO a bP f=>Ak 8 12013 Z f Z fun a f=>Ak 9 12013 Z f Z fun a f=> ?_
    obtain⟨bQ,bR,hd⟩:=bind_some hd
    refine AT 10 12013 0 m aB T27 bR Z f Z Z fun bS a bT f=>Ba 11 12013 0 aB AS bT bR Z f Z fun bU a bV f=> ?_
    obtain⟨bW,bX,hd⟩:=bind_some hd
    refine AT 12 12013 0 m aB T27 bX Z f Z Z fun bY a bZ f=>AV fun b0 w b1 m=> ?_
    have bP:=(RTg.mono (RI.mono _)) _ _ _ _ b1 bP
    have bV:=(RTg.mono (RI.mono _)) _ _ _ _ b1 bV
    have aB:=Ow.mono (RTg.mono (RI.mono _)) b1 aB
    refine AC 0 m aB Z Tryz.sizeOf31 f Z Z bZ bX bP.cells bP.one1 bP fun b2 w m b3=> ?_
    obtain⟨b4,b5,hd⟩:=bind_some hd
    refine AQ 0 m b3 Z T27 f Z Z Z b5 fun b6 a b7 f=>AC 0 m b3 Z Tryz.sizeOf31 f Z Z b7 b5 bV.cells bV.one1 bV fun b8 w m b9=>Aa (Ac ?_)
    refine Ab f Z fun a f=>Ad f Z fun a f=>Ad f Z fun a f=>Aa ?_
    refine Ap ?_
    obtain rfl:=sj hd
    exact⟨[(.int .i64 bc),(.bool true)],⟨f.get _ _ Z,f.get _ _ Z,trivial⟩,f.defers,_,[b8],(gt ar (gt a9 (gt bI b1))),m,_,Z,Z,b9⟩
   ·refine Ah f Z bJ ?_
    refine An ?_
    refine Af ?_
    refine B3 AJ m ?_
    refine p_p 2 Z (by kernel_rfl) f Z Z Z (fun _=>Bq (f.eval Z)) fun a f=>p_p 3 Z (by kernel_rfl) f Z Z Z (fun _=>Bq (f.eval Z)) fun a f=>B6 12013 11 (by kernel_rfl) Z ?_
    refine Ak 0 12013 Z f Z fun a f=>Ak 1 12013 Z f Z fun a f=>Ak 4 12013 Z f Z fun a f=>Ak 5 12013 Z f Z fun a f=> ?_
    obtain⟨ca,cb,hd⟩:=bind_some hd
    refine AT 6 12013 0 m aB T27 cb Z f Z Z fun cc a cd f=>Ba 7 12013 0 aB AS cd cb Z f Z fun ce a cf f=>Ak 8 12013 Z f Z fun a f=>Ak 9 12013 Z f Z fun a f=> ?_
    obtain⟨cg,ch,hd⟩:=bind_some hd
    refine AT 10 12013 0 m aB T27 ch Z f Z Z fun ci a cj f=>Ba 11 12013 0 aB AS cj ch Z f Z fun ck a cl f=> ?_
    obtain⟨cm,cn,hd⟩:=bind_some hd
    refine AT 12 12013 0 m aB T27 cn Z f Z Z fun co a cp f=>AV fun cq w cr m=> ?_
    have cf:=(RTg.mono (RI.mono _)) _ _ _ _ cr cf
    have cl:=(RTg.mono (RI.mono _)) _ _ _ _ cr cl
    have aB:=Ow.mono (RTg.mono (RI.mono _)) cr aB
    refine AC 0 m aB Z Tryz.sizeOf31 f Z Z cp cn cf.cells cf.one1 cf fun cs w m ct=> ?_
    obtain⟨cu,cv,hd⟩:=bind_some hd
    refine AQ 0 m ct Z T27 f Z Z Z cv fun cw a cx f=>AC 0 m ct Z Tryz.sizeOf31 f Z Z cx cv cl.cells cl.one1 cl fun cy w m cz=>Aa (Ac ?_)
    refine Ab f Z fun a f=>Ag f Z Z As fun a f=>Ad f Z fun a f=>Aa (Ac ?_)
    refine Ab f Z fun a f=>Ag f Z Z A3 fun a f=>Ad f Z fun a f=>Aa (Af ?_)
    obtain⟨cA,cB,hd⟩:=bind_some hd
    refine AE (fun a w=>∃cC:List (Value×List Int),∃cD:Int,(cC,cD)=cA∧∃(cE:GH) (cF:Itm),GLe cq cE∧Fr a 178 [(0,v0),(1,(.int .i64 x1)),(13,(.int .i64 cD))]∧Mem W cE w (cF::H)∧Ow (RTg (RI .i64)) 31 cE cF v0 cC) ?_ ?_
    ·refine Ai ?_
     refine AB (fun cG a w=>∃cH:List (Value×List Int),∃cI:Int,∃cJ:Int,(cH,cI,cJ)=cG∧∃(cK:GH) (cL:Itm),GLe cq cK∧Fr a 178 [(0,v0),(1,(.int .i64 x1)),(4,(.func (.func 76) #[] #[])),(12,(.int .i64 cI)),(13,(.int .i64 cJ))]∧Mem W cK w (cL::H)∧Ow (RTg (RI .i64)) 31 cK cL v0 cH) cB ⟨_,_,_,Z,_,cy,gr,f.k Z,m,cz⟩ ?_
     clear cB f m
     rintro cG cM cN cO a w ⟨cH,cI,cJ,rfl,cK,cL,cP,f,m,cQ⟩
     refine Ai (Af ?_)
     obtain⟨cR,cS,cN⟩:=bind_some cN
     refine AE (fun a w=>∃cT:Int,cT=cR∧∃(cU:GH),GLe cK cU∧Fr a 178 [(0,v0),(1,(.int .i64 x1)),(4,(.func (.func 76) #[] #[])),(12,(.int .i64 cT)),(13,(.int .i64 cJ))]∧Mem W cU w (cL::H)) ?_ ?_
     ·refine Ai ?_
      refine AB (fun cV a w=>∃cW:Int,cW=cV∧∃(cX:GH),GLe cK cX∧Fr a 178 [(0,v0),(1,(.int .i64 x1)),(4,(.func (.func 76) #[] #[])),(12,(.int .i64 cW)),(13,(.int .i64 cJ))]∧Mem W cX w (cL::H)) cS ⟨_,Z,_,gr,f.k Z,m⟩ ?_
      clear cS f m
      rintro cV cY cZ c0 a w ⟨cW,rfl,cX,c1,f,m⟩
      have cQ:=Ow.mono (RTg.mono (RI.mono _)) c1 cQ
      refine Af (Af ?_)
      refine A7 16 AJ (by kernel_rfl) m ?_
      refine Ak 0 16 Z f Z fun a f=>Ak 1 16 Z f Z fun a f=>q_p 2 16 Z f (fun _=>AL (f.eval Z) (f.eval Z) Cm) fun a f=>Ak 3 16 Z f Z fun a f=> ?_
      obtain⟨c2,c3,cZ⟩:=bind_some cZ
      refine Ci (fuel':=0) (listed':= #[true,true,true,true,true,true,true,true,true,true,true,true,true,true,true,true]) (fun a=>Fr a 178 [(0,v0),(1,(.int .i64 x1)),(4,(.func (.func 76) #[] #[])),(12,(.int .i64 cW)),(13,(.int .i64 cJ)),(105,(.int .i64 cW)),(106,(.int .i64 cJ)),(107,(.bool (decide (cW≤cJ)))),(108,(.bool (decide (cW≤cJ)))),(120,(.bool c2))]) ?_ ?_
      ·intro a f
       refine AV fun c4 w c5 m=> ?_
       have cQ:=Ow.mono (RTg.mono (RI.mono _)) c5 cQ
       refine Aa ?_
       rcases Ae cZ with⟨c6,cZ⟩|⟨c6,cZ⟩
       ·refine Am f Z c6 ?_
        refine An ?_
        refine Ai (Aj ?_)
        refine Ab f Z fun a f=>Ag f Z Z As fun a f=>Ad f Z fun a f=>Aa ?_
        obtain rfl:=sj cZ
        exact⟨_,Z,_,Z,_,(gt c1 c5),f.k Z,m⟩
       ·refine Ah f Z c6 ?_
        refine Ax Z ?_
        obtain rfl:=sj cZ
        obtain rfl:=c0 _ rfl
        exact⟨_,Z,_,(gt c1 c5),f.k Z,m⟩
      ·intro c7
       rcases Ae c3 with⟨c8,c3⟩|⟨c8,c3⟩
       ·refine Ak (hw:=wo f c8) 4 16 Z f Z fun a f=> ?_
        refine Ak (hw:=wo f c8) 5 16 Z f Z fun a f=>Ak (hw:=wo f c8) 6 16 Z f Z fun a f=> ?_
        obtain⟨c9,da,c3⟩:=bind_some c3
        refine AT (hw:=wo f c8) 7 16 0 m cQ T27 da Z f Z Z fun db a dc f=>Ba (hw:=wo f c8) 8 16 0 cQ AS dc da Z f Z fun dd a de f=>Ak (hw:=wo f c8) 9 16 Z f Z fun a f=>Ak (hw:=wo f c8) 10 16 Z f Z fun a f=> ?_
        obtain⟨df,dg,c3⟩:=bind_some c3
        refine AT (hw:=wo f c8) 11 16 0 m cQ T27 dg Z f Z Z fun dh a di f=>Ba (hw:=wo f c8) 12 16 0 cQ AS di dg Z f Z fun dj a dk f=> ?_
        obtain⟨dl,dm,c3⟩:=bind_some c3
        refine Cd (i:=13) 16 Z (by kernel_rfl) Z f (Bg f Z Z Z c8) Z Z Z Tryz.call76 (fun _ _ w dn m=>Wk.b m (rd1 dn (de.2)) (rd1 dn (dk.2)) dm) fun a f=>q_p (hw:=wo f c8) 14 16 Z f (fun _=>AL (f.eval Z) (f.eval Z) AD) fun a f=>q_p 15 16 Z f (fun _=>AN (f.eval Z) c8 (f.eval Z)) fun a f=> ?_
        obtain rfl:=sj c3
        exact c7 _ (f.k Z)
       ·refine Aq 4 16 Z f c8 fun a f=> ?_
        refine Aq 5 16 Z f c8 fun a f=>Aq 6 16 Z f c8 fun a f=>Aq 7 16 Z f c8 fun a f=>Aq 8 16 Z f c8 fun a f=>Aq 9 16 Z f c8 fun a f=>Aq 10 16 Z f c8 fun a f=>Aq 11 16 Z f c8 fun a f=>Aq 12 16 Z f c8 fun a f=>Aq 13 16 Z f c8 fun a f=>Aq 14 16 Z f c8 fun a f=>q_p 15 16 Z f (fun _=>AO (f.eval Z) c8 (f.eval Z)) fun a f=> ?_
        obtain rfl:=sj c3
        exact c7 _ (f.k Z)
     ·rintro a w ⟨cT,rfl,cU,dp,f,m⟩
      have cQ:=Ow.mono (RTg.mono (RI.mono _)) dp cQ
      refine Af ?_
      obtain⟨dq,dr,cN⟩:=bind_some cN
      refine AE (fun a w=>∃ds:Int,ds=dq∧∃(dt:GH),GLe cU dt∧Fr a 178 [(0,v0),(1,(.int .i64 x1)),(4,(.func (.func 76) #[] #[])),(12,(.int .i64 cT)),(13,(.int .i64 ds))]∧Mem W dt w (cL::H)) ?_ ?_
      ·refine Ai ?_
       refine AB (fun du a w=>∃dv:Int,dv=du∧∃(dw:GH),GLe cU dw∧Fr a 178 [(0,v0),(1,(.int .i64 x1)),(4,(.func (.func 76) #[] #[])),(12,(.int .i64 cT)),(13,(.int .i64 dv))]∧Mem W dw w (cL::H)) dr ⟨_,Z,_,gr,f.k Z,m⟩ ?_
       clear dr f m
       rintro du dx dy dz a w ⟨dv,rfl,dw,dA,f,m⟩
       have cQ:=Ow.mono (RTg.mono (RI.mono _)) dA cQ
       refine Af (Af ?_)
       refine A7 17 AJ (by kernel_rfl) m ?_
       refine Ak 0 17 Z f Z fun a f=>Ak 1 17 Z f Z fun a f=>q_p 2 17 Z f (fun _=>AL (f.eval Z) (f.eval Z) Cm) fun a f=>Ak 3 17 Z f Z fun a f=> ?_
       obtain⟨dB,dC,dy⟩:=bind_some dy
       refine Ci (fuel':=0) (listed':= #[true,true,true,true,true,true,true,true,true,true,true,true,true,true,true,true,true]) (fun a=>Fr a 178 [(0,v0),(1,(.int .i64 x1)),(4,(.func (.func 76) #[] #[])),(12,(.int .i64 cT)),(13,(.int .i64 dv)),(123,(.int .i64 cT)),(124,(.int .i64 dv)),(125,(.bool (decide (cT≤dv)))),(126,(.bool (decide (cT≤dv)))),(139,(.bool dB))]) ?_ ?_
       ·intro a f
        refine AV fun dD w dE m=> ?_
        have cQ:=Ow.mono (RTg.mono (RI.mono _)) dE cQ
        refine Aa ?_
        rcases Ae dy with⟨dF,dy⟩|⟨dF,dy⟩
        ·refine Am f Z dF ?_
         refine An ?_
         refine Ai (Aj ?_)
         refine Ab f Z fun a f=>Ag f Z Z A3 fun a f=>Ad f Z fun a f=>Aa ?_
         obtain rfl:=sj dy
         exact⟨_,Z,_,Z,_,(gt dA dE),f.k Z,m⟩
        ·refine Ah f Z dF ?_
         refine Ax Z ?_
         obtain rfl:=sj dy
         obtain rfl:=dz _ rfl
         exact⟨_,Z,_,(gt dA dE),f.k Z,m⟩
       ·intro dG
        rcases Ae dC with⟨dH,dC⟩|⟨dH,dC⟩
        ·refine Ak (hw:=wo f dH) 4 17 Z f Z fun a f=> ?_
         refine Ak (hw:=wo f dH) 5 17 Z f Z fun a f=>Ak (hw:=wo f dH) 6 17 Z f Z fun a f=> ?_
         obtain⟨dI,dJ,dC⟩:=bind_some dC
         refine AT (hw:=wo f dH) 7 17 0 m cQ T27 dJ Z f Z Z fun dK a dL f=>Ba (hw:=wo f dH) 8 17 0 cQ AS dL dJ Z f Z fun dM a dN f=>Ak (hw:=wo f dH) 9 17 Z f Z fun a f=>Ak (hw:=wo f dH) 10 17 Z f Z fun a f=> ?_
         obtain⟨dO,dP,dC⟩:=bind_some dC
         refine AT (hw:=wo f dH) 11 17 0 m cQ T27 dP Z f Z Z fun dQ a dR f=>Ba (hw:=wo f dH) 12 17 0 cQ AS dR dP Z f Z fun dS a dT f=> ?_
         obtain⟨dU,dV,dC⟩:=bind_some dC
         refine Cd (i:=13) 17 Z (by kernel_rfl) Z f (Bg f Z Z Z dH) Z Z Z Tryz.call76 (fun _ _ w dW m=>Wk.b m (rd1 dW (dN.2)) (rd1 dW (dT.2)) dV) fun a f=>q_p (hw:=wo f dH) 14 17 Z f (fun _=>AL (f.eval Z) (f.eval Z) AD) fun a f=>q_p (hw:=wo f dH) 15 17 Z f (fun _=>Bp (f.eval Z)) fun a f=>q_p 16 17 Z f (fun _=>AN (f.eval Z) dH (f.eval Z)) fun a f=> ?_
         obtain rfl:=sj dC
         exact dG _ (f.k Z)
        ·refine Aq 4 17 Z f dH fun a f=> ?_
         refine Aq 5 17 Z f dH fun a f=>Aq 6 17 Z f dH fun a f=>Aq 7 17 Z f dH fun a f=>Aq 8 17 Z f dH fun a f=>Aq 9 17 Z f dH fun a f=>Aq 10 17 Z f dH fun a f=>Aq 11 17 Z f dH fun a f=>Aq 12 17 Z f dH fun a f=>Aq 13 17 Z f dH fun a f=>Aq 14 17 Z f dH fun a f=>Aq 15 17 Z f dH fun a f=>q_p 16 17 Z f (fun _=>AO (f.eval Z) dH (f.eval Z)) fun a f=> ?_
         obtain rfl:=sj dC
         exact dG _ (f.k Z)
      ·rintro a w ⟨ds,rfl,dt,dX,f,m⟩
       have cQ:=Ow.mono (RTg.mono (RI.mono _)) dX cQ
       refine Af (Ac ?_)
       refine Ab f Z fun a f=>Ab f Z fun a f=>Ag f Z Z Cc fun a f=>Aa ?_
       rcases Ae cN with⟨dY,cN⟩|⟨dY,cN⟩
       ·refine Am f Z dY ?_
        refine Ax Z ?_
        obtain rfl:=sj cN
        obtain rfl:=cO _ rfl
        exact⟨_,_,Z,_,cL,(gt cP (gt dp dX)),f.k Z,m,cQ⟩
       ·refine Ah f Z dY ?_
        refine An ?_
        refine Af ?_
        refine B3 AJ m ?_
        refine p_p 2 Z (by kernel_rfl) f Z Z Z (fun _=>Bq (f.eval Z)) fun a f=>p_p 3 Z (by kernel_rfl) f Z Z Z (fun _=>Bq (f.eval Z)) fun a f=>B6 12013 11 (by kernel_rfl) Z ?_
        refine Ak 0 12013 Z f Z fun a f=>Ak 1 12013 Z f Z fun a f=>Ak 4 12013 Z f Z fun a f=>Ak 5 12013 Z f Z fun a f=> ?_
        obtain⟨dZ,d0,cN⟩:=bind_some cN
        refine AT 6 12013 0 m cQ T27 d0 Z f Z Z fun d1 a d2 f=>Ba 7 12013 0 cQ AS d2 d0 Z f Z fun d3 a d4 f=>Ak 8 12013 Z f Z fun a f=>Ak 9 12013 Z f Z fun a f=> ?_
        obtain⟨d5,d6,cN⟩:=bind_some cN
        refine AT 10 12013 0 m cQ T27 d6 Z f Z Z fun d7 a d8 f=>Ba 11 12013 0 cQ AS d8 d6 Z f Z fun d9 a ea f=> ?_
        obtain⟨eb,ec,cN⟩:=bind_some cN
        refine AT 12 12013 0 m cQ T27 ec Z f Z Z fun ed a ee f=>AV fun ef w eg m=> ?_
        have d4:=(RTg.mono (RI.mono _)) _ _ _ _ eg d4
        have ea:=(RTg.mono (RI.mono _)) _ _ _ _ eg ea
        have cQ:=Ow.mono (RTg.mono (RI.mono _)) eg cQ
        refine AC 0 m cQ Z Tryz.sizeOf31 f Z Z ee ec d4.cells d4.one1 d4 fun eh w m ei=> ?_
        obtain⟨ej,ek,cN⟩:=bind_some cN
        refine AQ 0 m ei Z T27 f Z Z Z ek fun el a em f=>AC 0 m ei Z Tryz.sizeOf31 f Z Z em ek ea.cells ea.one1 ea fun en w m eo=>Aa (Ac ?_)
        refine Ab f Z fun a f=>Ag f Z Z As fun a f=>Ad f Z fun a f=>Aa (Aj ?_)
        refine Ab f Z fun a f=>Ag f Z Z A3 fun a f=>Ad f Z fun a f=>Aa ?_
        obtain rfl:=sj cN
        exact⟨_,Z,_,_,_,Z,_,en,(gt cP (gt dp (gt dX eg))),f.k Z,m,eo⟩
    ·rintro a w ⟨cC,cD,rfl,cE,cF,ep,f,m,eq⟩
     refine Af ?_
     refine B3 AJ m ?_
     refine p_p 2 Z (by kernel_rfl) f Z Z Z (fun _=>Bq (f.eval Z)) fun a f=>p_p 3 Z (by kernel_rfl) f Z Z Z (fun _=>Bq (f.eval Z)) fun a f=>B6 12013 11 (by kernel_rfl) Z ?_
     refine Ak 0 12013 Z f Z fun a f=>Ak 1 12013 Z f Z fun a f=>Ak 4 12013 Z f Z fun a f=>Ak 5 12013 Z f Z fun a f=> ?_
     obtain⟨er,es,hd⟩:=bind_some hd
     refine AT 6 12013 0 m eq T27 es Z f Z Z fun et a eu f=>Ba 7 12013 0 eq AS eu es Z f Z fun ev a ew f=>Ak 8 12013 Z f Z fun a f=>Ak 9 12013 Z f Z fun a f=> ?_
     obtain⟨ex,ey,hd⟩:=bind_some hd
     refine AT 10 12013 0 m eq T27 ey Z f Z Z fun ez a eA f=>Ba 11 12013 0 eq AS eA ey Z f Z fun eB a eC f=> ?_
     obtain⟨eD,eE,hd⟩:=bind_some hd
     refine AT 12 12013 0 m eq T27 eE Z f Z Z fun eF a eG f=>AV fun eH w eI m=> ?_
     have ew:=(RTg.mono (RI.mono _)) _ _ _ _ eI ew
     have eC:=(RTg.mono (RI.mono _)) _ _ _ _ eI eC
     have eq:=Ow.mono (RTg.mono (RI.mono _)) eI eq
     refine AC 0 m eq Z Tryz.sizeOf31 f Z Z eG eE ew.cells ew.one1 ew fun eJ w m eK=> ?_
     obtain⟨eL,eM,hd⟩:=bind_some hd
     refine AQ 0 m eK Z T27 f Z Z Z eM fun eN a eO f=>AC 0 m eK Z Tryz.sizeOf31 f Z Z eO eM eC.cells eC.one1 eC fun eP w m eQ=>Aa (Ac ?_)
     refine Ab f Z fun a f=>Ad f Z fun a f=>Ad f Z fun a f=>Aa ?_
     refine Ap ?_
     obtain rfl:=sj hd
     exact⟨[(.int .i64 cD),(.bool false)],⟨f.get _ _ Z,f.get _ _ Z,trivial⟩,f.defers,_,[eP],(gt ar (gt a9 (gt bI (gt cr (gt ep eI))))),m,_,Z,Z,eQ⟩
theorem Wk.H {W:World}(n:Nat):∀{w:World} {G:GH} {H:List Itm} {v0:Value} {it0:Itm} {x0:(List (Value×List Int))} {x1:Int} {x2:Int} {x3:Int} (m:Mem W G w (it0::H)) (o0:Ow (RTg (RI .i64)) 31 G it0 v0 x0) {y:((List (Value×List Int)))} (hd:D.H n x0 x1 x2 x3=some y),
  Calls Tryz.prog 108 #[v0,(.int .i64 x1),(.int .i64 x2),(.int .i64 x3),(.func (.func 76) #[] #[])] w (Res W G H (fun G' Ho _=>∃i0:Itm,Ho=[i0]∧Ow (RTg (RI .i64)) 31 G' i0 v0 y)):=by
 induction n with
 |zero=>intros;rename_i hd;simp[D.H] at hd
 |succ fuel ih=>
  intro w G H v0 it0 x0 x1 x2 x3 m o0 y hd
  refine Ar (args:=[v0,(.int .i64 x1),(.int .i64 x2),(.int .i64 x3),(.func (.func 76) #[] #[])]) (N:=148) [] Tryz.func108 Z Z (Nat.le_of_ble_eq_true Z) Z fun a f=> ?_
  unfold D.H at hd
  refine Ac ?_
  refine Ad f Z fun a f=>Aa (Ac ?_)
  refine Ad f Z fun a f=>Aa ?_
  obtain⟨aa,ab,hd⟩:=bind_some hd
  refine Ai ?_
  refine AB (fun ac a w=>∃ad:List (Value×List Int),∃ae:Int,∃af:Int,∃ag:Int,∃ah:Bool,∃ai:Bool,(ad,ae,af,ag,ah,ai)=ac∧∃(aj:GH) (ak:Itm),GLe G aj∧Fr a 148 [(0,v0),(1,(.int .i64 ae)),(2,(.int .i64 af)),(3,(.int .i64 ag)),(4,(.func (.func 76) #[] #[])),(10,(.bool ah)),(11,(.bool ai))]∧Mem W aj w (ak::H)∧Ow (RTg (RI .i64)) 31 aj ak v0 ad) ab ⟨_,_,_,_,_,_,Z,_,it0,gr,f.k Z,m,o0⟩ ?_
  clear ab f m
  rintro ac al am an a w ⟨ad,ae,af,ag,ah,ai,rfl,aj,ak,ao,f,m,ap⟩
  refine Ai (Ac ?_)
  refine Ab f Z fun a f=>Ab f Z fun a f=>Ag f Z Z A3 fun a f=>Ad f Z fun a f=>Aa (Af (Ac ?_))
  refine Ab f Z fun a f=>Ag f Z Z Cm fun a f=>Aa ?_
  rcases Ae am with⟨aq,am⟩|⟨aq,am⟩
  ·refine Am f Z aq ?_
   refine Ac ?_
   refine Ab f Z fun a f=>Ab f Z fun a f=>Ab f Z fun a f=>Ab f Z fun a f=> ?_
   obtain⟨ar,au,am⟩:=bind_some am
   refine AF f Z Tryz.call126 (Wk.W0 m ap au) fun av aw ax w ay m az a f=> ?_
   obtain⟨aA,rfl,aB⟩:=az
   refine Aa ?_
   refine Ap ?_
   obtain rfl:=sj am
   obtain rfl:=an _ rfl
   obtain rfl:=sj hd
   exact⟨[],trivial,f.defers,_,[aA],(gt ao ay),m,_,Z,aB⟩
  ·refine Ah f Z aq ?_
   refine An ?_
   refine Af (Ac ?_)
   refine Ab f Z fun a f=>Ag f Z Z BG fun a f=>Aa ?_
   rcases Ae am with⟨aC,am⟩|⟨aC,am⟩
   ·refine Am f Z aC ?_
    refine Ac ?_
    refine Ab f Z fun a f=>Ab f Z fun a f=>Ab f Z fun a f=>Ab f Z fun a f=> ?_
    obtain⟨aD,aE,am⟩:=bind_some am
    refine AF f Z Tryz.call127 (Wk.j1 m ap aE) fun aF aG aH w aI m aJ a f=> ?_
    obtain⟨aK,rfl,aL⟩:=aJ
    refine Aa ?_
    refine Ap ?_
    obtain rfl:=sj am
    obtain rfl:=an _ rfl
    obtain rfl:=sj hd
    exact⟨[],trivial,f.defers,_,[aK],(gt ao aI),m,_,Z,aL⟩
   ·refine Ah f Z aC ?_
    refine An ?_
    refine Af (Ac ?_)
    refine Ab f Z fun a f=>l_o f (Bp (f.eval Z)) fun a f=>Aa ?_
    obtain⟨aM,aN,am⟩:=bind_some am
    refine AE (fun a w=>∃aO:List (Value×List Int),∃aP:Int,(aO,aP)=aM∧∃(aQ:GH) (aR:Itm),GLe aj aQ∧Fr a 148 [(0,v0),(1,(.int .i64 ae)),(2,(.int .i64 af)),(3,(.int .i64 aP)),(4,(.func (.func 76) #[] #[])),(10,(.bool ah)),(11,(.bool ai)),(12,(.int .i64 (IntKind.i64.wrap (af-ae))))]∧Mem W aQ w (aR::H)∧Ow (RTg (RI .i64)) 31 aQ aR v0 aO) ?_ ?_
    ·rcases Ae aN with⟨aS,aN⟩|⟨aS,aN⟩
     ·refine Am f Z aS ?_
      refine Ac ?_
      refine Ab f Z fun a f=>Ab f Z fun a f=>Ab f Z fun a f=>Ab f Z fun a f=> ?_
      obtain⟨aT,aU,aN⟩:=bind_some aN
      refine AF f Z Tryz.call128 (Wk.a1 m ap aU) fun aV aW aX w aY m aZ a f=> ?_
      obtain⟨a0,rfl,a1⟩:=aZ
      refine Aa (Aj ?_)
      refine Ab f Z fun a f=>Ag f Z Z A3 fun a f=>Ad f Z fun a f=>Aa ?_
      obtain rfl:=sj aN
      exact⟨_,_,Z,_,a0,aY,f.k Z,m,a1⟩
     ·refine Ah f Z aS ?_
      refine An ?_
      obtain rfl:=sj aN
      exact⟨_,_,Z,_,ak,gr,f.k Z,m,ap⟩
    ·rintro a w ⟨aO,aP,rfl,aQ,aR,a2,f,m,a3⟩
     refine Ac ?_
     refine Ab f Z fun a f=>Ab f Z fun a f=>Ab f Z fun a f=>Ab f Z fun a f=> ?_
     obtain⟨a4,a5,am⟩:=bind_some am
     refine AF f Z Tryz.call129 (Wk.Z0 m a3 a5) fun a6 a7 a8 w a9 m ba a f=> ?_
     obtain⟨bb,rfl,rfl,bc⟩:=ba
     refine Ab f Z fun a f=>l_o f (Bt (f.eval Z) Z) fun a f=>l_o f (Bt (f.eval Z) Z) fun a f=>Ad f Z fun a f=>Ad f Z fun a f=>Aa (Af (Ac ?_))
     refine Ab f Z fun a f=>Ag f Z Z BG fun a f=>Aa ?_
     obtain⟨bd,be,am⟩:=bind_some am
     refine AE (fun a w=>∃bf:List (Value×List Int),∃bg:Int,∃bh:Int,(bf,bg,bh)=bd∧∃(bi:GH) (bj:Itm),GLe a7 bi∧Fr a 148 [(0,v0),(1,(.int .i64 ae)),(2,(.int .i64 af)),(3,(.int .i64 aP)),(4,(.func (.func 76) #[] #[])),(10,(.bool ah)),(11,(.bool ai)),(12,(.int .i64 (IntKind.i64.wrap (af-ae)))),(13,(.int .i64 bg)),(14,(.int .i64 bh))]∧Mem W bi w (bj::H)∧Ow (RTg (RI .i64)) 31 bi bj v0 bf) ?_ ?_
     ·rcases Ae be with⟨bk,be⟩|⟨bk,be⟩
      ·refine Am f Z bk ?_
       refine Ac ?_
       refine Ab f Z fun a f=>Ab f Z fun a f=>Ab f Z fun a f=>Ab f Z fun a f=> ?_
       obtain⟨bl,bm,be⟩:=bind_some be
       refine AF f Z Tryz.call130 (Wk.i1 m bc bm) fun bn bo bp w bq m br a f=> ?_
       obtain⟨bs,rfl,bt⟩:=br
       refine Aa (Ac ?_)
       refine Ab f Z fun a f=>Ag f Z Z A3 fun a f=>Ab f Z fun a f=>Ab f Z fun a f=>Ag f Z Z A3 fun a f=>Ag f Z Z A3 fun a f=>Ad f Z fun a f=>Aa (Aj ?_)
       refine Ad f Z fun a f=>Aa ?_
       obtain rfl:=sj be
       exact⟨_,_,_,Z,_,bs,bq,f.k Z,m,bt⟩
      ·refine Ah f Z bk ?_
       refine An ?_
       obtain rfl:=sj be
       exact⟨_,_,_,Z,_,bb,gr,f.k Z,m,bc⟩
     ·rintro a w ⟨bf,bg,bh,rfl,bi,bj,bu,f,m,bv⟩
      refine Af (Ac ?_)
      refine Ab f Z fun a f=>Ab f Z fun a f=> ?_
      refine Bw 2 (fun a w=>∃bw,GLe bi bw∧Mem W bw w (bj::H)∧Fr a 148 [(0,v0),(1,(.int .i64 ae)),(2,(.int .i64 af)),(3,(.int .i64 aP)),(4,(.func (.func 76) #[] #[])),(10,(.bool ah)),(11,(.bool ai)),(12,(.int .i64 (IntKind.i64.wrap (af-ae)))),(13,(.int .i64 bg)),(14,(.int .i64 bh)),(68,(.bool ah)),(69,(.bool ah)),(71,(.bool (ah&&ai)))]) ?_ ?_
      ·rcases Bool.eq_false_or_eq_true ah with bx|bx
       ·refine Av f bx ?_
        refine Ab f Z fun a f=>l_o f (AN (f.eval Z) bx (f.eval Z)) fun a f=> ?_
        exact⟨_,gr,m,f.weak ⟨Z,Z,Z,Z,Z,Z,Z,Z,Z,Z,Z,Z,by rw[bx];rfl,trivial⟩⟩
       ·refine Aw f bx fun a f=> ?_
        refine l_o f (AO (f.eval Z) bx (f.eval Z)) fun a f=> ?_
        exact⟨_,gr,m,f.weak ⟨Z,Z,Z,Z,Z,Z,Z,Z,Z,Z,Z,Z,by rw[bx];rfl,trivial⟩⟩
      ·rintro a w ⟨bw,bz,m,f⟩
       have bv:=Ow.mono (RTg.mono (RI.mono _)) bz bv
       refine Ab f Z fun a f=> ?_
       refine Bw 3 (fun a w=>∃bA,GLe bw bA∧Mem W bA w (bj::H)∧Fr a 148 [(0,v0),(1,(.int .i64 ae)),(2,(.int .i64 af)),(3,(.int .i64 aP)),(4,(.func (.func 76) #[] #[])),(10,(.bool ah)),(11,(.bool ai)),(12,(.int .i64 (IntKind.i64.wrap (af-ae)))),(13,(.int .i64 bg)),(14,(.int .i64 bh)),(68,(.bool ah)),(69,(.bool ah)),(71,(.bool (ah&&ai))),(72,(.bool (ah&&ai))),(75,(.bool ((ah&&ai)&&(bh==1))))]) ?_ ?_
       ·rcases Bool.eq_false_or_eq_true (ah&&ai) with bB|bB
        ·refine Av f bB ?_
         refine Ab f Z fun a f=>Av f bB ?_
         refine Ag f Z Z BG fun a f=>l_o f (AN (f.eval Z) bB (f.eval Z)) fun a f=> ?_
         exact⟨_,gr,m,f.weak ⟨Z,Z,Z,Z,Z,Z,Z,Z,Z,Z,Z,Z,Z,Z,by rw[bB];rfl,trivial⟩⟩
        ·refine Aw f bB fun a f=> ?_
         refine Aw f bB fun a f=>l_o f (AO (f.eval Z) bB (f.eval Z)) fun a f=> ?_
         exact⟨_,gr,m,f.weak ⟨Z,Z,Z,Z,Z,Z,Z,Z,Z,Z,Z,Z,Z,Z,by rw[bB];rfl,trivial⟩⟩
       ·rintro a w ⟨bA,bC,m,f⟩
        have bv:=Ow.mono (RTg.mono (RI.mono _)) bC bv
        refine Aa ?_
        obtain⟨bD,bE,am⟩:=bind_some am
        refine AE (fun a w=>∃j_513':(List (Value×List Int)),bD= .inl j_513'∧∃bF:List (Value×List Int),bF=j_513'∧∃(bG:GH) (bH:Itm),GLe bA bG∧Fr a 148 [(0,v0),(1,(.int .i64 ae)),(2,(.int .i64 af)),(3,(.int .i64 aP)),(4,(.func (.func 76) #[] #[])),(10,(.bool ah)),(11,(.bool ai)),(12,(.int .i64 (IntKind.i64.wrap (af-ae)))),(13,(.int .i64 bg))]∧Mem W bG w (bH::H)∧Ow (RTg (RI .i64)) 31 bG bH v0 bF) ?_ ?_
        ·rcases Ae bE with⟨bI,bE⟩|⟨bI,bE⟩
         ·refine Am f Z bI ?_
          refine Ac ?_
          refine Ab f Z fun a f=>Ab f Z fun a f=>Ab f Z fun a f=>Ab f Z fun a f=> ?_
          obtain⟨bJ,bK,bE⟩:=bind_some bE
          refine AF f Z Tryz.call131 (Wk.e1 m bv bK) fun bL bM bN w bO m bP a f=> ?_
          obtain⟨bQ,rfl,rfl,bR⟩:=bP
          refine Aa ?_
          rcases Ae bE with⟨bS,bE⟩|⟨bS,bE⟩
          ·refine Am f Z bS ?_
           refine Ap ?_
           obtain rfl:=sj bE
           obtain rfl:=sj am
           obtain rfl:=an _ rfl
           obtain rfl:=sj hd
           exact⟨[],trivial,f.defers,_,[bQ],(gt ao (gt a2 (gt a9 (gt bu (gt bz (gt bC bO)))))),m,_,Z,bR⟩
          ·refine Ah f Z bS ?_
           refine An ?_
           obtain rfl:=sj bE
           exact⟨_,Z,_,Z,_,bQ,bO,f.k Z,m,bR⟩
         ·refine Ah f Z bI ?_
          refine An ?_
          obtain rfl:=sj bE
          exact⟨_,Z,_,Z,_,bj,gr,f.k Z,m,bv⟩
        ·rintro a w ⟨_,rfl,bF,rfl,bG,bH,bT,f,m,bU⟩
         refine Af (Af ?_)
         refine A7 17 AJ (by kernel_rfl) m ?_
         refine Ak 0 17 Z f Z fun a f=>q_p 1 17 Z f (fun _=>AL (f.eval Z) (f.eval Z) Cc) fun a f=>Ak 2 17 Z f Z fun a f=> ?_
         obtain⟨bV,bW,am⟩:=bind_some am
         refine Ci (fuel':=0) (listed':= #[true,true,true,true,true,true,true,true,true,true,true,true,true,true,true,true,true]) (fun a=>Fr a 148 [(0,v0),(1,(.int .i64 ae)),(2,(.int .i64 af)),(3,(.int .i64 aP)),(4,(.func (.func 76) #[] #[])),(10,(.bool ah)),(11,(.bool ai)),(12,(.int .i64 (IntKind.i64.wrap (af-ae)))),(13,(.int .i64 bg)),(81,(.int .i64 ae)),(82,(.bool (decide ((0:Int)<ae)))),(83,(.bool (decide ((0:Int)<ae)))),(97,(.bool bV))]) ?_ ?_
         ·intro a f
          refine AV fun bX w bY m=> ?_
          have bU:=Ow.mono (RTg.mono (RI.mono _)) bY bU
          refine Aa ?_
          rcases Ae am with⟨bZ,am⟩|⟨bZ,am⟩
          ·refine Am f Z bZ ?_
           refine Ac ?_
           refine Ab f Z fun a f=>Ab f Z fun a f=>Ab f Z fun a f=>Ab f Z fun a f=>Ab f Z fun a f=> ?_
           obtain⟨b0,b1,am⟩:=bind_some am
           refine AF f Z Tryz.call132 (Wk.b1 m bU b1) fun b2 b3 b4 w b5 m b6 a f=> ?_
           obtain⟨b7,rfl,rfl,b8⟩:=b6
           refine Ad f Z fun a f=>Aa (Ac ?_)
           refine Ab f Z fun a f=>Ad f Z fun a f=>Aa ?_
           refine Ax Z ?_
           obtain rfl:=sj am
           exact⟨_,Z,_,_,_,_,_,_,Z,_,b7,(gt ao (gt a2 (gt a9 (gt bu (gt bz (gt bC (gt bT (gt bY b5)))))))),f.k Z,m,b8⟩
          ·refine Ah f Z bZ ?_
           refine An ?_
           refine Ac ?_
           refine Ab f Z fun a f=>Ab f Z fun a f=>Ab f Z fun a f=>Ab f Z fun a f=>Ab f Z fun a f=> ?_
           obtain⟨b9,ca,am⟩:=bind_some am
           refine AF f Z Tryz.call133 (Wk.m1 m bU ca) fun cb cc cd w ce m cf a f=> ?_
           obtain⟨cg,rfl,rfl,ch⟩:=cf
           refine Ab f Z fun a f=>l_o f (Bt (f.eval Z) Z) fun a f=>l_o f (Bt (f.eval Z) Z) fun a f=>Ad f Z fun a f=>Ad f Z fun a f=>Aa (Ac ?_)
           refine Ab f Z fun a f=>Ad f Z fun a f=>Aa (Ac ?_)
           refine Ab f Z fun a f=>Ab f Z fun a f=>Ag f Z Z A3 fun a f=>Ab f Z fun a f=>Ab f Z fun a f=>Ag f Z Z A3 fun a f=>Ad f Z fun a f=>Ad f Z fun a f=>Aa (Ac ?_)
           refine Ab f Z fun a f=>Ag f Z Z (b_quo Z) fun a f=>Ad f Z fun a f=>Aa (Ac ?_)
           refine Ab f Z fun a f=>Ab f Z fun a f=>Ag f Z Z AD fun a f=>Aa ?_
           rcases Ae am with⟨ci,am⟩|⟨ci,am⟩
           ·refine Am f Z ci ?_
            refine Ac ?_
            refine Ab f Z fun a f=>Ab f Z fun a f=>Ag f Z Z Ck fun a f=>Ad f Z fun a f=>Aa (Ac ?_)
            refine Ab f Z fun a f=>Ab f Z fun a f=>Ab f Z fun a f=>Ab f Z fun a f=>Ab f Z fun a f=> ?_
            obtain⟨cj,ck,am⟩:=bind_some am
            refine AF f Z Tryz.call108 (ih m ch ck) fun cl cm cn w co m cp a f=> ?_
            obtain⟨cq,rfl,cr⟩:=cp
            refine Aa (Aj ?_)
            refine Ab f Z fun a f=>Ag f Z Z As fun a f=>Ad f Z fun a f=>Aa ?_
            obtain rfl:=sj am
            exact⟨_,Z,_,_,_,_,_,_,Z,_,cq,(gt ao (gt a2 (gt a9 (gt bu (gt bz (gt bC (gt bT (gt bY (gt ce co))))))))),f.k Z,m,cr⟩
           ·refine Ah f Z ci ?_
            refine Ac ?_
            refine Ab f Z fun a f=>Ab f Z fun a f=>Ag f Z Z Ck fun a f=>Ad f Z fun a f=>Aa (Ac ?_)
            refine Ab f Z fun a f=>Ab f Z fun a f=>Ag f Z Z As fun a f=>Ab f Z fun a f=>Ab f Z fun a f=>Ab f Z fun a f=> ?_
            obtain⟨cs,ct,am⟩:=bind_some am
            refine AF f Z Tryz.call108 (ih m ch ct) fun cu cv cw w cx m cy a f=> ?_
            obtain⟨cz,rfl,cA⟩:=cy
            refine Aa (Aj ?_)
            refine Ab f Z fun a f=>Ad f Z fun a f=>Aa ?_
            obtain rfl:=sj am
            exact⟨_,Z,_,_,_,_,_,_,Z,_,cz,(gt ao (gt a2 (gt a9 (gt bu (gt bz (gt bC (gt bT (gt bY (gt ce cx))))))))),f.k Z,m,cA⟩
         ·intro cB
          rcases Ae bW with⟨cC,bW⟩|⟨cC,bW⟩
          ·refine Ak (hw:=wo f cC) 3 17 Z f Z fun a f=> ?_
           refine Ak (hw:=wo f cC) 4 17 Z f Z fun a f=>Ak (hw:=wo f cC) 5 17 Z f Z fun a f=>q_p (hw:=wo f cC) 6 17 Z f (fun _=>AL (f.eval Z) (f.eval Z) A3) fun a f=> ?_
           obtain⟨cD,cE,bW⟩:=bind_some bW
           refine AT (hw:=wo f cC) 7 17 0 m bU T27 cE Z f Z Z fun cF a cG f=>Ba (hw:=wo f cC) 8 17 0 bU AS cG cE Z f Z fun cH a cI f=>Ak (hw:=wo f cC) 9 17 Z f Z fun a f=>Ak (hw:=wo f cC) 10 17 Z f Z fun a f=> ?_
           obtain⟨cJ,cK,bW⟩:=bind_some bW
           refine AT (hw:=wo f cC) 11 17 0 m bU T27 cK Z f Z Z fun cL a cM f=>Ba (hw:=wo f cC) 12 17 0 bU AS cM cK Z f Z fun cN a cO f=> ?_
           obtain⟨cP,cQ,bW⟩:=bind_some bW
           refine Cd (i:=13) 17 Z (by kernel_rfl) Z f (Bg f Z Z Z cC) Z Z Z Tryz.call76 (fun _ _ w cR m=>Wk.b m (rd1 cR (cI.2)) (rd1 cR (cO.2)) cQ) fun a f=>q_p (hw:=wo f cC) 14 17 Z f (fun _=>AL (f.eval Z) (f.eval Z) AD) fun a f=>q_p (hw:=wo f cC) 15 17 Z f (fun _=>Bp (f.eval Z)) fun a f=>q_p 16 17 Z f (fun _=>AN (f.eval Z) cC (f.eval Z)) fun a f=> ?_
           obtain rfl:=sj bW
           exact cB _ (f.k Z)
          ·refine Aq 3 17 Z f cC fun a f=> ?_
           refine Aq 4 17 Z f cC fun a f=>Aq 5 17 Z f cC fun a f=>Aq 6 17 Z f cC fun a f=>Aq 7 17 Z f cC fun a f=>Aq 8 17 Z f cC fun a f=>Aq 9 17 Z f cC fun a f=>Aq 10 17 Z f cC fun a f=>Aq 11 17 Z f cC fun a f=>Aq 12 17 Z f cC fun a f=>Aq 13 17 Z f cC fun a f=>Aq 14 17 Z f cC fun a f=>Aq 15 17 Z f cC fun a f=>q_p 16 17 Z f (fun _=>AO (f.eval Z) cC (f.eval Z)) fun a f=> ?_
           obtain rfl:=sj bW
           exact cB _ (f.k Z)
theorem Wk.p {W w:World}{G:GH}{H:List Itm}{v0:Value}{it0:Itm}{x0:(List (Value×List Int))}{x1:Int}{x2:Int}{x3:Int}(m:Mem W G w (it0::H))(o0:Ow (RTg (RI .i64)) 31 G it0 v0 x0){y:((List (Value×List Int)))}(hd:D.p x0 x1 x2 x3=some y):
  Calls Tryz.prog 108 #[v0,(.int .i64 x1),(.int .i64 x2),(.int .i64 x3),(.func (.func 76) #[] #[])] w (Res W G H (fun G' Ho _=>∃i0:Itm,Ho=[i0]∧Ow (RTg (RI .i64)) 31 G' i0 v0 y)):=by
 exact Wk.H Bs m o0 hd
theorem Wk.P {W w:World}{G:GH}{H:List Itm}{v0:Value}{it0:Itm}{x0:(List (Value×List Int))}(m:Mem W G w (it0::H))(o0:Ow (RTg (RI .i64)) 31 G it0 v0 x0){y:((List (Value×List Int)))}(hd:D.P x0=some y):
  Calls Tryz.prog 75 #[v0,(.func (.func 76) #[] #[])] w (Res W G H (fun G' Ho _=>∃i0:Itm,Ho=[i0]∧Ow (RTg (RI .i64)) 31 G' i0 v0 y)):=by
 refine Ar (args:=[v0,(.func (.func 76) #[] #[])]) (N:=14) [] Tryz.func75 Z Z (Nat.le_of_ble_eq_true Z) Z fun a f=> ?_
 unfold D.P at hd
 refine Ac ?_
 refine Ab f Z fun a f=>Bl 0 m o0 Z Tryz.underlying27 f Z Z fun a f=>Ad f Z fun a f=>Aa (Aj ?_)
 refine Ab f Z fun a f=>Ab f Z fun a f=>Ab f Z fun a f=>l_o f (Di (f.eval Z) ⟨_,Tryz.underlying3⟩ Tryz.underlying95) fun a f=> ?_
 obtain⟨aa,ab,hd⟩:=bind_some hd
 refine AF f Z Tryz.call109 (Wk.v m ab) fun ac ad ae w af m ag a f=> ?_
 obtain⟨rfl,rfl⟩:=ag
 have o0:=Ow.mono (RTg.mono (RI.mono _)) af o0
 refine Ab f Z fun a f=> ?_
 obtain⟨ah,ai,hd⟩:=bind_some hd
 refine AF f Z Tryz.call108 (Wk.p m o0 ai) fun aj ak al w am m an a f=> ?_
 obtain⟨ao,rfl,ap⟩:=an
 refine Aa ?_
 obtain rfl:=sj hd
 exact⟨[],trivial,f.defers,_,[ao],(gt af am),m,_,Z,ap⟩
theorem Wk.M {W w:World}{G:GH}{H:List Itm}{v0:Value}{v1:Value}{x0:(List Int)}{x1:(List Int)}(hW:Cs W)(m:Mem W G w (H))(h0:RSl (RI .u32) G v0 x0)(h1:RSl (RI .i64) G v1 x1){y:((List (List Int)))×((List (List Int)))}(hd:D.M x0 x1=some y):
  Calls Tryz.prog 38 #[v0,v1] w (Res W G H (fun G' Ho v=>∃r0:Value,∃i0:Itm,∃r2:Value,∃i2:Itm,Ho=[i0,i2]∧v=(.agg #[r0,r2])∧Ow2 (RI .i64) 31 2 G' i0 r0 y.1∧Ow2 (RI .i64) 31 2 G' i2 r2 y.2)):=by
 refine Ar (args:=[v0,v1]) (N:=104) [.cell 4 36] Tryz.func38 Z Z (Nat.le_of_ble_eq_true Z) Z fun a f=> ?_
 unfold D.M at hd
 refine Ac ?_
 refine BF (cs:=[(.slice none 0 0),(.slice none 0 0)]) Tryz.zeroValue36 m f Z Z fun aa w a m f=>Aa (Ac ?_)
 refine Ab f Z fun a f=>Ab f Z fun a f=> ?_
 obtain⟨ab,ac,hd⟩:=bind_some hd
 refine AF f Z Tryz.call80 (Wk.z hW m h0 h1 ac) fun ad ae af w ag m ah a f=> ?_
 obtain⟨ai,aj,ak,al,rfl,rfl,am,an⟩:=ah
 have h0:=rd1 ag h0
 have h1:=rd1 ag h1
 refine Ab f Z fun a f=>l_o f (Bt (f.eval Z) Z) fun a f=>l_o f (Bt (f.eval Z) Z) fun a f=>Ad f Z fun a f=>Ad f Z fun a f=>Aa (Ac ?_)
 refine Ab f Z fun a f=>AX Tryz.underlying67 f Z Z h1 fun a f=> ?_
 obtain⟨ao,ap,hd⟩:=bind_some hd
 refine CT (R:=(RI .i64)) m T67 Z (by decide) Z f Z Z Z ap fun aq ar w a m au f=>Ad f Z fun a f=>Aa (Af (Ac ?_))
 refine Ab f Z fun a f=>AX Tryz.underlying67 f Z Z h1 fun a f=>Ab f Z fun a f=>Aa ?_
 obtain⟨av,aw,hd⟩:=bind_some hd
 refine AE (fun a w=>∃ax:List Int,ax=av∧∃(ay:GH) (az:Itm),GLe ae ay∧Fr a 104 [(1,v1),(4,(.pointer (some ⟨aa,0,none⟩))),(6,ak),(7,ar)]∧Mem W ay w (Itm.box aa 36 [(.slice none 0 0),(.slice none 0 0)]::al::az::H)∧Ow (RI .i64) 3 ay az ar ax) ?_ ?_
 ·refine Ai ?_
  have m:=m.front 2 rfl
  have m:=m.front 3 rfl
  have m:=m.eraseAt 3
  refine AB (fun aA a w=>∃aB:List Int,∃aC:Int,(aB,aC)=aA∧∃(aD:GH) (aE:Itm),GLe ae aD∧Fr a 104 [(1,v1),(4,(.pointer (some ⟨aa,0,none⟩))),(6,ak),(7,ar),(25,v1),(26,(.int .i64 (x1.length:Int))),(27,(.int .i64 aC))]∧Mem W aD w (Itm.box aa 36 [(.slice none 0 0),(.slice none 0 0)]::al::aE::H)∧Ow (RI .i64) 3 aD aE ar aB) aw ⟨_,_,Z,_,aq,gr,f.k Z,m,au⟩ ?_
  clear aw f m
  rintro aA aF aG aH a w ⟨aB,aC,rfl,aD,aE,aI,f,m,aJ⟩
  have h1:=rd1 aI h1
  have an:=od1 aI an
  refine Ac ?_
  refine Ag f Z Z AD fun a f=>Aa (Af ?_)
  rcases Ae aG with⟨aK,aG⟩|⟨aK,aG⟩
  ·refine Am f Z aK ?_
   refine An ?_
   refine Af (Ai (Ac ?_))
   refine Ab f Z fun a f=> ?_
   obtain⟨aL,aM,aG⟩:=bind_some aG
   refine Bb T67 f Z Z Z h1 aM fun aN aO a aP aQ f=> ?_
   subst aQ
   refine Az m Pl3 f Z Z aP fun a f=>Ad f Z fun a f=>Ad f Z fun a f=>Aa (Aj ?_)
   refine Ab f Z fun a f=>Ab f Z fun a f=>Ab f Z fun a f=> ?_
   obtain⟨aR,aS,aG⟩:=bind_some aG
   refine AQ 2 m aJ Z T67 f Z Z Z aS fun aT a aU f=>AC 2 m aJ Z Tryz.sizeOf3 f Z Z aU aS Z Z Z fun aV w m aW=>Aa (Aj ?_)
   refine Ag f Z Z As fun a f=>Ab f Z fun a f=>Aa ?_
   obtain rfl:=sj aG
   exact⟨_,Z,_,_,Z,_,aV,aI,f.k Z,m,aW⟩
  ·refine Ah f Z aK ?_
   refine Ax Z ?_
   obtain rfl:=sj aG
   obtain rfl:=aH _ rfl
   exact⟨_,Z,_,aE,aI,f.k Z,m,aJ⟩
 ·rintro a w ⟨ax,rfl,ay,az,aX,f,m,aY⟩
  have h1:=rd1 aX h1
  have an:=od1 aX an
  refine Ac ?_
  have aZ:∀w,(Instr.build 36 #[]).run Tryz.prog w= .ok (.agg #[(.slice none 0 0),(.slice none 0 0)]) w:=by intro w;simp[Instr.build,Instr.fill,CM,Cx,B9,Cn,BY,Cu]
  refine Dc f Z Z aZ fun a f=>BF (cs:=[(.slice none 0 0),(.slice none 0 0)]) Tryz.zeroValue36 m f Z Z fun a0 w a m f=>AR 0 0 (ds:=[(.slice none 0 0),(.slice none 0 0)]) m Tryz.sizeOf36 f Z Z Z (AM Z (AM Z A6)) Z (Nat.le_of_ble_eq_true Z) Z fun w m=>Aa (Af (Ac ?_))
  refine Ab f Z fun a f=>AX Tryz.underlying67 f Z Z h1 fun a f=>Ab f Z fun a f=>Aa ?_
  obtain⟨a1,m,a2⟩:=Ow2.nil (RI .i64) 31 2 m
  obtain⟨a3,m,a4⟩:=Ow2.nil (RI .i64) 31 2 m
  obtain⟨a5,a6,hd⟩:=bind_some hd
  refine AE (fun a w=>∃a7:List (List Int),∃a8:List (List Int),(a7,a8)=a5∧∃(a9:GH) (ba:Value) (bb:Itm) (bc:Value) (bd:Itm),GLe ay a9∧Fr a 104 [(4,(.pointer (some ⟨aa,0,none⟩))),(10,(.pointer (some ⟨a0,0,none⟩)))]∧Mem W a9 w (Itm.box aa 36 [(.slice none 0 0),(.slice none 0 0)]::Itm.box a0 36 [ba,bc]::bb::bd::H)∧Ow2 (RI .i64) 31 2 a9 bb ba a7∧Ow2 (RI .i64) 31 2 a9 bd bc a8) ?_ ?_
  ·refine Ai ?_
   have m:=m.front 1 rfl
   have m:=m.front 5 rfl
   have m:Mem W ay w (al::az::a1::a3::Itm.box a0 36 [(.slice none 0 0),(.slice none 0 0)]::Itm.box aa 36 [(.slice none 0 0),(.slice none 0 0)]::H):=m.front 5 rfl
   have m:=m.front 4 rfl
   have m:Mem W ay w (Itm.box aa 36 [(.slice none 0 0),(.slice none 0 0)]::Itm.box a0 36 [(.slice none 0 0),(.slice none 0 0)]::al::az::a1::a3::H):=m.front 5 rfl
   refine AB (fun be a w=>∃bf:Int,∃bg:List (List Int),∃bh:List (List Int),(bf,bg,bh)=be∧∃(bi:GH) (bj:Value) (bk:Itm) (bl:Value) (bm:Itm),GLe ay bi∧Fr a 104 [(1,v1),(4,(.pointer (some ⟨aa,0,none⟩))),(6,ak),(7,ar),(10,(.pointer (some ⟨a0,0,none⟩))),(38,v1),(39,(.int .i64 (x1.length:Int))),(40,(.int .i64 bf))]∧Mem W bi w (Itm.box aa 36 [(.slice none 0 0),(.slice none 0 0)]::Itm.box a0 36 [bj,bl]::al::az::bk::bm::H)∧Ow2 (RI .i64) 31 2 bi bk bj bg∧Ow2 (RI .i64) 31 2 bi bm bl bh) a6 ⟨_,_,_,Z,_,(.slice none 0 0),a1,(.slice none 0 0),a3,gr,f.k Z,m,a2,a4⟩ ?_
   clear a6 f m
   rintro be bn bo bp a w ⟨bf,bg,bh,rfl,bi,bj,bk,bl,bm,bq,f,m,br,bs⟩
   have h1:=rd1 bq h1
   have an:=od1 bq an
   have aY:=od1 bq aY
   refine Ac ?_
   refine Ag f Z Z AD fun a f=>Aa (Af ?_)
   rcases Ae bo with⟨bt,bo⟩|⟨bt,bo⟩
   ·refine Am f Z bt ?_
    refine An ?_
    refine Af (Ai (Ac ?_))
    refine Ab f Z fun a f=> ?_
    obtain⟨bu,bv,bo⟩:=bind_some bo
    refine Bb T67 f Z Z Z h1 bv fun bw bx a bz bA f=> ?_
    subst bA
    refine Az m Pl3 f Z Z bz fun a f=>Ad f Z fun a f=>Ad f Z fun a f=>Aa (Af ?_)
    refine A7 11 AJ (by kernel_rfl) m ?_
    refine Cg 0 11 Tryz.underlying36 Z Tryz.sizeOf27 Z f Z fun a f=>BS 1 11 1 Bk Z Z Z f Z fun a f=>Ak 2 11 Z f Z fun a f=>Ak 3 11 Z f Z fun a f=> ?_
    obtain⟨bB,bC,bo⟩:=bind_some bo
    refine AT 4 11 2 m an T61 bC Z f Z Z fun bD a bE f=>Ba 5 11 2 an DN bE bC Z f Z fun bF a bG f=> ?_
    subst bG
    refine Ak 6 11 Z f Z fun a f=> ?_
    obtain⟨bH,bI,bo⟩:=bind_some bo
    refine Ca (i:=7) 11 Z (by kernel_rfl) Z f Z Z Z Tryz.call56 (fun _ _ w bJ m=>Wk.d m bI) fun a f=>q_p 8 11 Z f (fun _=>AL (f.eval Z) (f.eval Z) b_or) fun a f=>BJ (i:=9) Z (by kernel_rfl) Z fun bK w bL m bM bM=> ?_
    have h1:=rd1 bL h1
    have an:=od1 bL an
    have aY:=od1 bL aY
    have br:=od2 bL br
    have bs:=od2 bL bs
    obtain⟨bN,bO,bo⟩:=bind_some bo
    refine AF f Z Tryz.call57 (Wk.y hW m bO) fun bP bQ bR w bS m bT a f=> ?_
    obtain⟨bU,bV,rfl,rfl,bW⟩:=bT
    have h1:=rd1 bS h1
    have an:=od1 bS an
    have aY:=od1 bS aY
    have br:=od2 bS br
    have bs:=od2 bS bs
    refine Aa ?_
    refine bM bQ [bV] _ _ bS m ?_
    refine BJ (i:=10) Z (by kernel_rfl) Z fun bX w bY m bZ bZ=> ?_
    have h1:=rd1 bY h1
    have bW:=od1 bY bW
    have an:=od1 bY an
    have aY:=od1 bY aY
    have br:=od2 bY br
    have bs:=od2 bY bs
    refine A5 (R:=RawS) (xs:=[bU]) RawS.one m T27 f Z Z Z (by decide) (All2.cons ⟨Z,Ow.one1 0 m bW Z,Ow.cells 0 m bW Z⟩ (All2.nil _)) fun b0 b1 w a m b2 f=>Aa ?_
    refine bZ bX [b0,bV] _ _ gr m ?_
    refine AV fun b3 w b4 m=> ?_
    have h1:=rd1 b4 h1
    have b2:=Ow.mono RawS.mono b4 b2
    have bW:=od1 b4 bW
    have an:=od1 b4 an
    have aY:=od1 b4 aY
    have br:=od2 b4 br
    have bs:=od2 b4 bs
    have m:=m.front 1 rfl
    have m:Mem W b3 w (bk::bV::b0::Itm.box aa 36 [(.slice none 0 0),(.slice none 0 0)]::Itm.box a0 36 [bj,bl]::al::az::bm::H):=m.front 6 rfl
    obtain⟨b5,b6,bo⟩:=bind_some bo
    refine EB m br bW b2 T27 Z (by decide) f Z Z Z b6 fun b7 b8 w a m b9 f=>Bo Tryz.underlying36 Z Tryz.sizeOf27 f Z fun a f=>AR 2 0 (ds:=[b8]) m Tryz.sizeOf27 f Z Z (Ow2.cells 0 m b9 Z) (AM (Ow2.one1 0 m b9 Z) A6) Z (Nat.le_of_ble_eq_true Z) Z fun w m=>Aa (Af (Ac ?_))
    refine Ab f Z fun a f=>Ab f Z fun a f=>AX Tryz.underlying67 f Z Z h1 fun a f=>Ag f Z Z A3 fun a f=>Ag f Z Z BG fun a f=>Aa ?_
    rcases Ae bo with⟨ca,bo⟩|⟨ca,bo⟩
    ·refine Am f Z ca ?_
     refine Ax Z ?_
     have m:=m.front 5 rfl
     have m:=m.front 1 rfl
     have m:Mem W b3 w (Itm.box a0 36 [b8,bl]::b7::bm::Itm.box aa 36 [(.slice none 0 0),(.slice none 0 0)]::al::az::H):=m.front 3 rfl
     have m:=m.front 3 rfl
     have m:=m.eraseAt 5
     have m:Mem W b3 w (Itm.box aa 36 [(.slice none 0 0),(.slice none 0 0)]::Itm.box a0 36 [b8,bl]::b7::bm::H):=m.eraseAt 4
     obtain rfl:=sj bo
     obtain rfl:=bp _ rfl
     exact⟨_,_,Z,_,b8,b7,bl,bm,(gt bq (gt bL (gt bS (gt bY b4)))),f.k Z,m,b9,bs⟩
    ·refine Ah f Z ca ?_
     refine An ?_
     refine Ac ?_
     refine Ab f Z fun a f=>Ag f Z Z As fun a f=>Ad f Z fun a f=>Aa (Af (Ac ?_))
     refine Ab f Z fun a f=>Ab f Z fun a f=> ?_
     obtain⟨cb,cc,bo⟩:=bind_some bo
     refine AQ 3 m an Z T61 f Z Z Z cc fun cd a ce f=>Br 3 m an Z DN f Z Z ce cc fun cf a cg f=> ?_
     subst cg
     obtain⟨ch,ci,bo⟩:=bind_some bo
     refine AF f Z Tryz.call72 (Wk.k hW m ci) fun cj ck cl w cm m cn a f=> ?_
     obtain⟨co,cp,rfl,rfl,cq⟩:=cn
     have h1:=rd1 cm h1
     have b9:=od2 cm b9
     have an:=od1 cm an
     have aY:=od1 cm aY
     have bs:=od2 cm bs
     refine Bl 0 m cq Z Tryz.underlying67 f Z Z fun a f=>Ab f Z fun a f=>Aa ?_
     obtain⟨cr,ct,bo⟩:=bind_some bo
     refine AE (fun a w=>∃cu:Int,cu=cr∧∃(cv:GH),GLe ck cv∧Fr a 104 [(1,v1),(4,(.pointer (some ⟨aa,0,none⟩))),(6,ak),(7,ar),(10,(.pointer (some ⟨a0,0,none⟩))),(11,(.int .i64 bf)),(13,(.int .i64 cu)),(38,v1),(39,(.int .i64 (x1.length:Int))),(40,(.int .i64 bf))]∧Mem W cv w (Itm.box aa 36 [(.slice none 0 0),(.slice none 0 0)]::Itm.box a0 36 [b8,bl]::al::az::b7::bm::H)) ?_ ?_
     ·refine Ai ?_
      have m:=m.front 5 rfl
      have m:=m.front 5 rfl
      have m:Mem W ck w (Itm.box a0 36 [b8,bl]::al::az::cp::b7::Itm.box aa 36 [(.slice none 0 0),(.slice none 0 0)]::bm::H):=m.front 5 rfl
      have m:Mem W ck w (Itm.box aa 36 [(.slice none 0 0),(.slice none 0 0)]::Itm.box a0 36 [b8,bl]::al::az::cp::b7::bm::H):=m.front 5 rfl
      refine AB (fun cw a w=>∃cx:Int,∃cy:Int,(cx,cy)=cw∧∃(cz:GH),GLe ck cz∧Fr a 104 [(1,v1),(4,(.pointer (some ⟨aa,0,none⟩))),(6,ak),(7,ar),(10,(.pointer (some ⟨a0,0,none⟩))),(11,(.int .i64 bf)),(13,(.int .i64 cx)),(38,v1),(39,(.int .i64 (x1.length:Int))),(40,(.int .i64 bf)),(69,co),(70,(.int .i64 (ch.length:Int))),(71,(.int .i64 cy))]∧Mem W cz w (Itm.box aa 36 [(.slice none 0 0),(.slice none 0 0)]::Itm.box a0 36 [b8,bl]::al::az::cp::b7::bm::H)) ct ⟨_,_,Z,_,gr,f.k Z,m⟩ ?_
      clear ct f m
      rintro cw cA cB cC a w ⟨cx,cy,rfl,cz,cD,f,m⟩
      have h1:=rd1 cD h1
      have an:=od1 cD an
      have aY:=od1 cD aY
      have cq:=od1 cD cq
      have b9:=od2 cD b9
      have bs:=od2 cD bs
      refine Ac ?_
      refine Ag f Z Z AD fun a f=>Aa (Af ?_)
      rcases Ae cB with⟨cE,cB⟩|⟨cE,cB⟩
      ·refine Am f Z cE ?_
       refine An ?_
       refine Af (Ai (Ac ?_))
       refine Ab f Z fun a f=> ?_
       obtain⟨cF,cG,cB⟩:=bind_some cB
       refine AQ 4 m cq Z T67 f Z Z Z cG fun cH a cI f=>Br 4 m cq Z Pl3 f Z Z cI cG fun cJ a cK f=> ?_
       subst cK
       refine Ad f Z fun a f=>Ad f Z fun a f=>Aa (Ac ?_)
       refine Ab f Z fun a f=>Ag f Z Z BG fun a f=>Ab f Z fun a f=> ?_
       obtain⟨cL,cM,cB⟩:=bind_some cB
       refine Bw 7 (fun a w=>∃cN,GLe cz cN∧Mem W cN w (Itm.box aa 36 [(.slice none 0 0),(.slice none 0 0)]::Itm.box a0 36 [b8,bl]::al::az::cp::b7::bm::H)∧Fr a 104 [(1,v1),(4,(.pointer (some ⟨aa,0,none⟩))),(6,ak),(7,ar),(10,(.pointer (some ⟨a0,0,none⟩))),(11,(.int .i64 bf)),(13,(.int .i64 cx)),(14,(.int .i64 cy)),(15,(.int .i64 cF)),(38,v1),(39,(.int .i64 (x1.length:Int))),(40,(.int .i64 bf)),(69,co),(70,(.int .i64 (ch.length:Int))),(71,(.int .i64 cy)),(76,(.int .i64 cy)),(77,(.bool (cy==0))),(78,(.bool (cy==0))),(85,(.bool cL))]) ?_ ?_
       ·rcases Ae cM with⟨cO,cM⟩|⟨cO,cM⟩
        ·refine Aw f cO fun a f=> ?_
         refine Aw f cO fun a f=>Aw f cO fun a f=>Aw f cO fun a f=>Aw f cO fun a f=>Aw f cO fun a f=>l_o f (AN (f.eval Z) cO (f.eval Z)) fun a f=> ?_
         obtain rfl:=sj cM
         exact⟨_,gr,m,f.k Z⟩
        ·refine Av f cO ?_
         refine Ab f Z fun a f=>Av f cO ?_
         refine Ab f Z fun a f=>Av f cO ?_
         obtain⟨cP,cQ,cM⟩:=bind_some cM
         refine AQ 3 m aY Z T67 f Z Z Z cQ fun cR a cS f=>Av f cO ?_
         refine Br 3 m aY Z Pl3 f Z Z cS cQ fun cT a cU f=> ?_
         subst cU
         refine Av f cO ?_
         refine Ab f Z fun a f=>Av f cO ?_
         refine Ag f Z Z AD fun a f=>l_o f (AO (f.eval Z) cO (f.eval Z)) fun a f=> ?_
         obtain rfl:=sj cM
         exact⟨_,gr,m,f.k Z⟩
       ·rintro a w ⟨cN,cV,m,f⟩
        have h1:=rd1 cV h1
        have an:=od1 cV an
        have aY:=od1 cV aY
        have cq:=od1 cV cq
        have b9:=od2 cV b9
        have bs:=od2 cV bs
        refine Aa ?_
        rcases Ae cB with⟨cW,cB⟩|⟨cW,cB⟩
        ·refine Am f Z cW ?_
         refine Aj ?_
         refine Ab f Z fun a f=>Ab f Z fun a f=> ?_
         obtain⟨cX,cY,cB⟩:=bind_some cB
         refine AQ 3 m aY Z T67 f Z Z Z cY fun cZ a c0 f=>Br 3 m aY Z Pl3 f Z Z c0 cY fun c1 a c2 f=> ?_
         subst c2
         refine Ad f Z fun a f=>Aa (Aj ?_)
         refine Ag f Z Z As fun a f=>Ab f Z fun a f=>Aa ?_
         obtain rfl:=sj cB
         exact⟨_,Z,_,_,Z,_,(gt cD cV),f.k Z,m⟩
        ·refine Ah f Z cW ?_
         refine An ?_
         refine Aj ?_
         refine Ag f Z Z As fun a f=>Ab f Z fun a f=>Aa ?_
         obtain rfl:=sj cB
         exact⟨_,Z,_,_,Z,_,(gt cD cV),f.k Z,m⟩
      ·refine Ah f Z cE ?_
       refine Ax Z ?_
       have m:=m.front 6 rfl
       have m:=m.front 6 rfl
       have m:Mem W cz w (az::b7::bm::Itm.box aa 36 [(.slice none 0 0),(.slice none 0 0)]::Itm.box a0 36 [b8,bl]::al::cp::H):=m.front 5 rfl
       have m:=m.front 5 rfl
       have m:=m.front 5 rfl
       have m:Mem W cz w (Itm.box aa 36 [(.slice none 0 0),(.slice none 0 0)]::Itm.box a0 36 [b8,bl]::al::az::b7::bm::cp::H):=m.front 5 rfl
       have m:Mem W cz w (Itm.box aa 36 [(.slice none 0 0),(.slice none 0 0)]::Itm.box a0 36 [b8,bl]::al::az::b7::bm::H):=m.eraseAt 6
       obtain rfl:=sj cB
       obtain rfl:=cC _ rfl
       exact⟨_,Z,_,cD,f.k Z,m⟩
     ·rintro a w ⟨cu,rfl,cv,c3,f,m⟩
      have h1:=rd1 c3 h1
      have an:=od1 c3 an
      have aY:=od1 c3 aY
      have b9:=od2 c3 b9
      have bs:=od2 c3 bs
      refine A7 6 AJ (by kernel_rfl) m ?_
      refine Cg 0 6 Tryz.underlying36 Z Tryz.sizeOf27 Z f Z fun a f=>BS 1 6 1 Bk Z Z Z f Z fun a f=>Ak 2 6 Z f Z fun a f=>Ak 3 6 Z f Z fun a f=>BJ (i:=4) Z (by kernel_rfl) Z fun c4 w c5 m c6 c6=> ?_
      have h1:=rd1 c5 h1
      have an:=od1 c5 an
      have aY:=od1 c5 aY
      have b9:=od2 c5 b9
      have bs:=od2 c5 bs
      obtain⟨c7,c8,bo⟩:=bind_some bo
      refine AF f Z Tryz.call81 (Wk.X m c8) fun c9 da db w dc m dd a f=> ?_
      obtain⟨de,df,rfl,rfl,dg⟩:=dd
      have h1:=rd1 dc h1
      have an:=od1 dc an
      have aY:=od1 dc aY
      have b9:=od2 dc b9
      have bs:=od2 dc bs
      refine Aa ?_
      refine c6 da [df] _ _ dc m ?_
      refine BJ (i:=5) Z (by kernel_rfl) Z fun dh w di m dj dj=> ?_
      have h1:=rd1 di h1
      have dg:=od1 di dg
      have an:=od1 di an
      have aY:=od1 di aY
      have b9:=od2 di b9
      have bs:=od2 di bs
      refine A5 (R:=RawS) (xs:=[de]) RawS.one m T27 f Z Z Z (by decide) (All2.cons ⟨Z,Ow.one1 0 m dg Z,Ow.cells 0 m dg Z⟩ (All2.nil _)) fun dk dl w a m dm f=>Aa ?_
      refine dj dh [dk,df] _ _ gr m ?_
      refine AV fun dn w dp m=> ?_
      have h1:=rd1 dp h1
      have dm:=Ow.mono RawS.mono dp dm
      have dg:=od1 dp dg
      have an:=od1 dp an
      have aY:=od1 dp aY
      have b9:=od2 dp b9
      have bs:=od2 dp bs
      have m:=m.front 1 rfl
      have m:Mem W dn w (bm::df::dk::Itm.box aa 36 [(.slice none 0 0),(.slice none 0 0)]::Itm.box a0 36 [b8,bl]::al::az::b7::H):=m.front 7 rfl
      obtain⟨dq,dr,bo⟩:=bind_some bo
      refine EB m bs dg dm T27 Z (by decide) f Z Z Z dr fun dt du w a m dv f=>Bo Tryz.underlying36 Z Tryz.sizeOf27 f Z fun a f=>AR 2 1 (ds:=[du]) m Tryz.sizeOf27 f Z Z (Ow2.cells 0 m dv Z) (AM (Ow2.one1 0 m dv Z) A6) Z (Nat.le_of_ble_eq_true Z) Z fun w m=>Aa (Aj ?_)
      refine Ag f Z Z As fun a f=>Ab f Z fun a f=>Aa ?_
      have m:=m.front 5 rfl
      have m:=m.front 5 rfl
      have m:Mem W dn w (al::az::b7::dt::Itm.box aa 36 [(.slice none 0 0),(.slice none 0 0)]::Itm.box a0 36 [b8,du]::H):=m.front 5 rfl
      have m:=m.front 5 rfl
      have m:Mem W dn w (Itm.box aa 36 [(.slice none 0 0),(.slice none 0 0)]::Itm.box a0 36 [b8,du]::al::az::b7::dt::H):=m.front 5 rfl
      obtain rfl:=sj bo
      exact⟨_,Z,_,_,_,Z,_,b8,b7,du,dt,(gt bq (gt bL (gt bS (gt bY (gt b4 (gt cm (gt c3 (gt c5 (gt dc (gt di dp)))))))))),f.k Z,m,b9,dv⟩
   ·refine Ah f Z bt ?_
    refine Ax Z ?_
    have m:=m.front 5 rfl
    have m:=m.front 5 rfl
    have m:Mem W bi w (Itm.box a0 36 [bj,bl]::bk::bm::Itm.box aa 36 [(.slice none 0 0),(.slice none 0 0)]::al::az::H):=m.front 3 rfl
    have m:=m.front 3 rfl
    have m:=m.eraseAt 5
    have m:Mem W bi w (Itm.box aa 36 [(.slice none 0 0),(.slice none 0 0)]::Itm.box a0 36 [bj,bl]::bk::bm::H):=m.eraseAt 4
    obtain rfl:=sj bo
    obtain rfl:=bp _ rfl
    exact⟨_,_,Z,_,bj,bk,bl,bm,bq,f.k Z,m,br,bs⟩
  ·rintro a w ⟨a7,a8,rfl,a9,ba,bb,bc,bd,dw,f,m,dx,dy⟩
   refine Ac ?_
   refine Bo Tryz.underlying36 Z Tryz.sizeOf27 f Z fun a f=>AG 1 1 m Bk f Z Z Z Z fun a f=> ?_
   have m:Mem W a9 w (bd::Itm.box aa 36 [(.slice none 0 0),(.slice none 0 0)]::Itm.box a0 36 [ba,bc]::bb::H):=m.front 3 rfl
   obtain⟨dz,dA,hd⟩:=bind_some hd
   refine AF f Z Tryz.call75 (Ow2.sortCall (RI.free _) dy m (fun Z hZ=>(Bi dA hZ).imp (fun zs h=>⟨h.2.1,h.2.2,fun _ _ m o=>Wk.P m o h.1⟩))) fun dB dC dD w dE m dF a f=> ?_
   obtain⟨dG,rfl,dH⟩:=dF
   have dx:=od2 dE dx
   refine Aa (Ac ?_)
   refine AA 2 0 (ds:=[ba,bc]) m Dq f Z Z Z Z Z fun a f=>AR 1 0 (ds:=[ba,bc]) m Tryz.sizeOf36 f Z Z Z (AM (Ow2.one1 3 m dx Z) (AM (Ow2.one1 0 m dH Z) A6)) Z (Nat.le_of_ble_eq_true Z) Z fun w m=>Aa ?_
   refine Ap ?_
   have dI:=CL (P:=Tryz.prog) 1 m Dq f (s:=4) rfl rfl rfl
   have m:=m.front 3 rfl
   have m:=m.eraseAt 3
   have m:=m.eraseAt 2
   obtain rfl:=sj hd
   exact⟨[(.agg #[ba,bc])],⟨dI,trivial⟩,f.defers,_,[bb,dG],(gt ag (gt aX (gt dw dE))),m,_,_,_,_,Z,Z,dx,dH⟩
theorem Wk.B0 {W w:World}{G:GH}{H:List Itm}{v0:Value}{x0:(List (List Int))}(m:Mem W G w (H))(h0:RSl (RSl (RI .i64)) G v0 x0){y:((List Int))}(hd:D.B0 x0=some y):
  Calls Tryz.prog 73 #[v0] w (Res W G H (fun G' Ho v=>∃r0:Value,∃i0:Itm,Ho=[i0]∧r0=v∧Ow (RI .u32) 65 G' i0 r0 y)):=by
 refine Ar (args:=[v0]) (N:=20) [.tmp 2] Tryz.func73 Z Z (Nat.le_of_ble_eq_true Z) Z fun a f=> ?_
 unfold D.B0 at hd
 refine Ac ?_
 refine Ad f Z fun a f=>Aa (Ac ?_)
 refine A5 (R:=(RI .u32)) (xs:=([]:List Int)) (RI.one _) m T60 f Z Z Z (by decide) (All2.nil _) fun aa ab w a m ac f=>Ad f Z fun a f=>Aa (Af (Ac ?_))
 refine Ab f Z fun a f=>AX Tryz.underlying27 f Z Z h0 fun a f=>Ab f Z fun a f=>Aa ?_
 obtain⟨ad,ae,hd⟩:=bind_some hd
 refine AE (fun a w=>∃af:List Int,af=ad∧∃(ag:GH) (ah:Value) (ai:Itm),GLe G ag∧Fr a 20 [(3,ah)]∧Mem W ag w (ai::H)∧Ow (RI .u32) 65 ag ai ah af) ?_ ?_
 ·refine Ai ?_
  refine AB (fun aj a w=>∃ak:List Int,∃al:Int,(ak,al)=aj∧∃(am:GH) (an:Value) (ao:Itm),GLe G am∧Fr a 20 [(3,an),(7,v0),(8,(.int .i64 (x0.length:Int))),(9,(.int .i64 al))]∧Mem W am w (ao::H)∧Ow (RI .u32) 65 am ao an ak) ae ⟨_,_,Z,_,ab,aa,gr,f.k Z,m,ac⟩ ?_
  clear ae f m
  rintro aj ap aq ar a w ⟨ak,al,rfl,am,an,ao,au,f,m,av⟩
  have h0:=rd2 au h0
  refine Ac ?_
  refine Ag f Z Z AD fun a f=>Aa (Af ?_)
  rcases Ae aq with⟨aw,aq⟩|⟨aw,aq⟩
  ·refine Am f Z aw ?_
   refine An ?_
   refine Af (Ai (Ac ?_))
   obtain⟨ax,ay,aq⟩:=bind_some aq
   refine Bb T27 f Z Z Z h0 ay fun az aA a aB aC f=>Az m AS f Z Z aB fun a f=>Ad f Z fun a f=>Aa (Aj ?_)
   refine Ab f Z fun a f=>Ab f Z fun a f=> ?_
   obtain⟨aD,aE,aq⟩:=bind_some aq
   refine AY f Z Tryz.call70 (Wk.V m aC aE) fun aF w aG m a f=> ?_
   have aC:=rd1 aG aC
   have h0:=rd2 aG h0
   have av:=od1 aG av
   refine A5 (R:=(RI .u32)) (xs:=([aD]:List Int)) (RI.one _) m T60 f Z Z Z (by decide) (All2.cons Z (All2.nil _)) fun aH aI w a m aJ f=> ?_
   obtain⟨aK,aL,aq⟩:=bind_some aq
   refine Bj (RI.one _) 1 m av Z T60 Z (by decide) f Z Z Z (Ow.src (j:=0) aJ m Z) aL fun aM aN w a m aO f=>Ad f Z fun a f=>Aa (Aj ?_)
   refine Ag f Z Z As fun a f=>Ab f Z fun a f=>Aa ?_
   have m:=m.front 1 rfl
   have m:=m.eraseAt 1
   obtain rfl:=sj aq
   exact⟨_,Z,_,_,Z,_,aN,aM,(gt au aG),f.k Z,m,aO⟩
  ·refine Ah f Z aw ?_
   refine Ax Z ?_
   obtain rfl:=sj aq
   obtain rfl:=ar _ rfl
   exact⟨_,Z,_,an,ao,au,f.k Z,m,av⟩
 ·rintro a w ⟨af,rfl,ag,ah,ai,aP,f,m,aQ⟩
  refine Ac ?_
  refine Ab f Z fun a f=>Ad f Z fun a f=>Aa ?_
  refine Ap ?_
  obtain rfl:=sj hd
  exact⟨[ah],⟨f.get _ _ Z,trivial⟩,f.defers,_,[ai],aP,m,_,_,Z,Z,aQ⟩
theorem Wk.Y {W w:World}{G:GH}{H:List Itm}{b1:Nat}{b2:Nat}{x0:Int}{x1_0:Int}{x2_0:Int}(m:Mem W G w (Itm.box b1 3 [(.int .i64 x1_0)]::Itm.box b2 3 [(.int .i64 x2_0)]::H)){y:Int}(hd:D.Y x0 x1_0 x2_0=some y):
  Calls Tryz.prog 111 #[(.int .i64 x0),(.pointer (some ⟨b1,0,none⟩)),(.pointer (some ⟨b2,0,none⟩))] w (Res W G H (fun _ Ho v=>Ho=[Itm.box b1 3 [(.int .i64 x1_0)],Itm.box b2 3 [(.int .i64 x2_0)]]∧v=(.int .i64 y))):=by
 refine Ar (args:=[(.int .i64 x0),(.pointer (some ⟨b1,0,none⟩)),(.pointer (some ⟨b2,0,none⟩))]) (N:=15) [.tmp 4] Tryz.func111 Z Z (Nat.le_of_ble_eq_true Z) Z fun a f=> ?_
 unfold D.Y at hd
 refine Ac ?_
 refine Ad f Z fun a f=>Aa (Af (Ac ?_))
 refine Ab f Z fun a f=>AG 0 0 m Pl3 f Z Z Z Z fun a f=>Ag f Z Z BG fun a f=>Aa ?_
 rcases Ae hd with⟨aa,hd⟩|⟨aa,hd⟩
 ·refine Am f Z aa ?_
  refine Aj ?_
  refine AG 1 0 m Pl3 f Z Z Z Z fun a f=>Ad f Z fun a f=>Aa (Af (Ac ?_))
  refine Ab f Z fun a f=>AG 0 0 m Pl3 f Z Z Z Z fun a f=>Ag f Z Z Cc fun a f=>Aa ?_
  rcases Ae hd with⟨ab,hd⟩|⟨ab,hd⟩
  ·refine Am f Z ab ?_
   refine Aj ?_
   refine Ab f Z fun a f=>Ag f Z Z A3 fun a f=>Ad f Z fun a f=>Aa (Ac ?_)
   refine Ab f Z fun a f=>Ad f Z fun a f=>Aa ?_
   refine Ap ?_
   obtain rfl:=sj hd
   exact⟨[(.int .i64 (IntKind.i64.wrap (x2_0-1)))],⟨f.get _ _ Z,trivial⟩,f.defers,_,[Itm.box b1 3 [(.int .i64 x1_0)],Itm.box b2 3 [(.int .i64 x2_0)]],gr,m,Z,Z⟩
  ·refine Ah f Z ab ?_
   refine An ?_
   refine Ac ?_
   refine Ab f Z fun a f=>Ad f Z fun a f=>Aa ?_
   refine Ap ?_
   obtain rfl:=sj hd
   exact⟨[(.int .i64 x2_0)],⟨f.get _ _ Z,trivial⟩,f.defers,_,[Itm.box b1 3 [(.int .i64 x1_0)],Itm.box b2 3 [(.int .i64 x2_0)]],gr,m,Z,Z⟩
 ·refine Ah f Z aa ?_
  refine An ?_
  refine Af (Ac ?_)
  refine Ab f Z fun a f=>AG 0 0 m Pl3 f Z Z Z Z fun a f=>Ag f Z Z Cc fun a f=>Aa ?_
  rcases Ae hd with⟨ac,hd⟩|⟨ac,hd⟩
  ·refine Am f Z ac ?_
   refine Aj ?_
   refine Ab f Z fun a f=>Ag f Z Z A3 fun a f=>Ad f Z fun a f=>Aa (Ac ?_)
   refine Ab f Z fun a f=>Ad f Z fun a f=>Aa ?_
   refine Ap ?_
   obtain rfl:=sj hd
   exact⟨[(.int .i64 (IntKind.i64.wrap (x0-1)))],⟨f.get _ _ Z,trivial⟩,f.defers,_,[Itm.box b1 3 [(.int .i64 x1_0)],Itm.box b2 3 [(.int .i64 x2_0)]],gr,m,Z,Z⟩
  ·refine Ah f Z ac ?_
   refine An ?_
   refine Ac ?_
   refine Ab f Z fun a f=>Ad f Z fun a f=>Aa ?_
   refine Ap ?_
   obtain rfl:=sj hd
   exact⟨[(.int .i64 x0)],⟨f.get _ _ Z,trivial⟩,f.defers,_,[Itm.box b1 3 [(.int .i64 x1_0)],Itm.box b2 3 [(.int .i64 x2_0)]],gr,m,Z,Z⟩
theorem Wk.e {W w:World}{G:GH}{H:List Itm}{v0:Value}{v1:Value}{x0:(List Int)}{x1:(List (List Int))}{x2:Int}{x3:Int}(m:Mem W G w (H))(h0:RSl (RI .u32) G v0 x0)(h1:RSl (RSl (RI .i64)) G v1 x1){y:((List Int))×((List (List Int)))}(hd:D.e x0 x1 x2 x3=some y):
  Calls Tryz.prog 77 #[v0,v1,(.int .i64 x2),(.int .i64 x3)] w (Res W G H (fun G' Ho v=>∃r0:Value,∃i0:Itm,∃r2:Value,∃i2:Itm,Ho=[i0,i2]∧v= .tuple #[r0,r2]∧Ow (RI .u32) 65 G' i0 r0 y.1∧Ow (RSl (RI .i64)) 31 G' i2 r2 y.2)):=by
 refine Ar (args:=[v0,v1,(.int .i64 x2),(.int .i64 x3)]) (N:=53) [.tmp 8,.tmp 9] Tryz.func77 Z Z (Nat.le_of_ble_eq_true Z) Z fun a f=> ?_
 unfold D.e at hd
 refine Ac ?_
 refine Bn (cs:=[(.int .i64 x2)]) m f Z Z Z fun aa w a m f=>Bn (cs:=[(.int .i64 x3)]) m f Z Z Z fun ab w a m f=>Ad f Z fun a f=>Ad f Z fun a f=>Aa (Ac ?_)
 refine l_makeFunc f Z Z Z fun a f=>Ad f Z fun a f=>Aa (Ac ?_)
 refine A5 (R:=(RSl (RI .i64))) (xs:=([]:List (List Int))) (RSl.one _) m T27 f Z Z Z (by decide) (All2.nil _) fun ac ad w a m ae f=>Ad f Z fun a f=>Aa (Af (Ac ?_))
 refine Ab f Z fun a f=>AX Tryz.underlying27 f Z Z h1 fun a f=>Ab f Z fun a f=>Aa ?_
 obtain⟨af,ag,hd⟩:=bind_some hd
 refine AE (fun a w=>∃ah:List (List Int),ah=af∧∃(ai:GH) (aj:Value) (ak:Itm),GLe G ai∧Fr a 53 [(0,v0),(6,(.pointer (some ⟨aa,0,none⟩))),(11,aj)]∧Mem W ai w (Itm.box aa 3 [(.int .i64 x2)]::ak::H)∧Ow (RSl (RI .i64)) 31 ai ak aj ah) ?_ ?_
 ·refine Ai ?_
  have m:=m.front 1 rfl
  have m:=m.front 2 rfl
  refine AB (fun al a w=>∃am:List (List Int),∃an:Int,(am,an)=al∧∃(ao:GH) (ap:Value) (aq:Itm),GLe G ao∧Fr a 53 [(0,v0),(6,(.pointer (some ⟨aa,0,none⟩))),(10,(.func (.func 111) #[] #[(.pointer (some ⟨aa,0,none⟩)),(.pointer (some ⟨ab,0,none⟩))])),(11,ap),(18,v1),(19,(.int .i64 (x1.length:Int))),(20,(.int .i64 an))]∧Mem W ao w (Itm.box aa 3 [(.int .i64 x2)]::Itm.box ab 3 [(.int .i64 x3)]::aq::H)∧Ow (RSl (RI .i64)) 31 ao aq ap am) ag ⟨_,_,Z,_,ad,ac,gr,f.k Z,m,ae⟩ ?_
  clear ag f m
  rintro al ar au av a w ⟨am,an,rfl,ao,ap,aq,aw,f,m,ax⟩
  have h0:=rd1 aw h0
  have h1:=rd2 aw h1
  refine Ac ?_
  refine Ag f Z Z AD fun a f=>Aa (Af ?_)
  rcases Ae au with⟨ay,au⟩|⟨ay,au⟩
  ·refine Am f Z ay ?_
   refine An ?_
   refine Af (Ai (Ac ?_))
   obtain⟨az,aA,au⟩:=bind_some au
   refine Bb T27 f Z Z Z h1 aA fun aB aC a aD aE f=>Az m AS f Z Z aD fun a f=>Ad f Z fun a f=>Aa (Af ?_)
   refine A7 12 AJ (by kernel_rfl) m ?_
   refine Ak 0 12 Z f Z fun a f=>Ak 1 12 Z f Z fun a f=> ?_
   obtain⟨aF,aG,au⟩:=bind_some au
   refine BZ 2 12 T31 aE aG Z f Z Z fun aH aI a aJ aK f=> ?_
   subst aK
   refine B2 3 12 Pl2 aJ Z f Z fun a f=>Ak 5 12 Z f Z fun a f=>Ak 6 12 Z f Z fun a f=> ?_
   obtain⟨aL,aM,au⟩:=bind_some au
   refine BZ 7 12 T31 aE aM Z f Z Z fun aN aO a aP aQ f=> ?_
   subst aQ
   refine B2 8 12 Pl2 aP Z f Z fun a f=>BJ (i:=4) Z (by kernel_rfl) Z fun aR w aS m aT aT=> ?_
   have h0:=rd1 aS h0
   have aE:=rd1 aS aE
   have h1:=rd2 aS h1
   have aJ:=At.mono aS aJ
   have aP:=At.mono aS aP
   have ax:=Ow.mono (RSl.mono (RI.mono _)) aS ax
   obtain⟨aU,aV,au⟩:=bind_some au
   refine l_resv0 f Z Z Z Tryz.call111 (Wk.Y m aV) fun aW aX aY w aZ m a0 a f=> ?_
   obtain⟨rfl,rfl⟩:=a0
   have h0:=rd1 aZ h0
   have aE:=rd1 aZ aE
   have h1:=rd2 aZ h1
   have aJ:=At.mono aZ aJ
   have aP:=At.mono aZ aP
   have ax:=Ow.mono (RSl.mono (RI.mono _)) aZ ax
   refine Aa ?_
   refine aT aX [] _ _ aZ m ?_
   refine BJ (i:=9) Z (by kernel_rfl) Z fun a1 w a2 m a3 a3=> ?_
   have h0:=rd1 a2 h0
   have aE:=rd1 a2 aE
   have h1:=rd2 a2 h1
   have aJ:=At.mono a2 aJ
   have aP:=At.mono a2 aP
   have ax:=Ow.mono (RSl.mono (RI.mono _)) a2 ax
   obtain⟨a4,a5,au⟩:=bind_some au
   refine l_resv0 f Z Z Z Tryz.call111 (Wk.Y m a5) fun a6 a7 a8 w a9 m ba a f=> ?_
   obtain⟨rfl,rfl⟩:=ba
   have h0:=rd1 a9 h0
   have aE:=rd1 a9 aE
   have h1:=rd2 a9 h1
   have aJ:=At.mono a9 aJ
   have aP:=At.mono a9 aP
   have ax:=Ow.mono (RSl.mono (RI.mono _)) a9 ax
   refine Aa ?_
   refine a3 a7 [] _ _ a9 m ?_
   refine q_p 10 12 Z f (fun _=>BD (f.eval Z)) fun a f=>q_p 11 12 Z f (fun _=>BD (f.eval Z)) fun a f=>AV fun bb w bc m=> ?_
   have h0:=rd1 bc h0
   have aE:=rd1 bc aE
   have h1:=rd2 bc h1
   have aJ:=At.mono bc aJ
   have aP:=At.mono bc aP
   have ax:=Ow.mono (RSl.mono (RI.mono _)) bc ax
   refine Aa (Ac ?_)
   refine Ab f Z fun a f=>Ab f Z fun a f=>Ag f Z Z CS fun a f=>Aa ?_
   rcases Ae au with⟨bd,au⟩|⟨bd,au⟩
   ·refine Am f Z bd ?_
    refine Aj ?_
    refine Ab f Z fun a f=>Ab f Z fun a f=>Ab f Z fun a f=> ?_
    obtain⟨be,bf,au⟩:=bind_some au
    refine AF f Z Tryz.call81 (Wk.X m bf) fun bg bh bi w bj m bk a f=> ?_
    obtain⟨bl,bm,rfl,rfl,bn⟩:=bk
    have h0:=rd1 bj h0
    have aE:=rd1 bj aE
    have h1:=rd2 bj h1
    have ax:=Ow.mono (RSl.mono (RI.mono _)) bj ax
    obtain⟨bo,bp,m,bq⟩:=Ow.stamp (RI.mono _) bn m
    have h0:=rd1 bp h0
    have aE:=rd1 bp aE
    have h1:=rd2 bp h1
    have ax:=Ow.mono (RSl.mono (RI.mono _)) bp ax
    refine A5 (R:=(RSl (RI .i64))) (xs:=([be]:List (List Int))) (RSl.one _) m T27 f Z Z Z (by decide) (All2.cons bq (All2.nil _)) fun br bs w a m bt f=> ?_
    obtain⟨bu,bv,au⟩:=bind_some au
    refine Bj (RSl.one _) 3 m ax Z T27 Z (by decide) f Z Z Z (Ow.src (j:=0) bt m Z) bv fun bw bx w a m bz f=>Ad f Z fun a f=>Aa (Aj ?_)
    refine Ag f Z Z As fun a f=>Ab f Z fun a f=>Aa ?_
    have m:=m.front 3 rfl
    have m:=m.front 3 rfl
    have m:Mem W bo w (Itm.box aa 3 [(.int .i64 x2)]::Itm.box ab 3 [(.int .i64 x3)]::bw::br::H):=m.front 3 rfl
    have m:=m.eraseAt 3
    obtain rfl:=sj au
    exact⟨_,Z,_,_,Z,_,bx,bw,(gt aw (gt aS (gt aZ (gt a2 (gt a9 (gt bc (gt bj bp))))))),f.k Z,m,bz⟩
   ·refine Ah f Z bd ?_
    refine An ?_
    refine Aj ?_
    refine Ag f Z Z As fun a f=>Ab f Z fun a f=>Aa ?_
    obtain rfl:=sj au
    exact⟨_,Z,_,_,Z,_,ap,aq,(gt aw (gt aS (gt aZ (gt a2 (gt a9 bc))))),f.k Z,m,ax⟩
  ·refine Ah f Z ay ?_
   refine Ax Z ?_
   have m:=m.front 2 rfl
   have m:=m.front 1 rfl
   have m:=m.eraseAt 2
   obtain rfl:=sj au
   obtain rfl:=av _ rfl
   exact⟨_,Z,_,ap,aq,aw,f.k Z,m,ax⟩
 ·rintro a w ⟨ah,rfl,ai,aj,ak,bA,f,m,bB⟩
  have h0:=rd1 bA h0
  refine Ac ?_
  refine Ab f Z fun a f=> ?_
  have m:=m.front 1 rfl
  obtain⟨bC,bD,hd⟩:=bind_some hd
  refine AF f Z Tryz.call75 (Ow.sortCall bB m (fun Z hZ=>(Bi bD hZ).imp (fun zs h=>⟨h.2.1,h.2.2,fun _ _ m o=>Wk.P m o h.1⟩))) fun bE bF bG w bH m bI a f=> ?_
  obtain⟨bJ,rfl,bK⟩:=bI
  have h0:=rd1 bH h0
  refine Aa (Af ?_)
  refine A7 8 AJ (by kernel_rfl) m ?_
  refine Ak 0 8 Z f Z fun a f=>BS 2 8 1 Pl3 Z Z Z f Z fun a f=>BS 3 8 1 Pl3 Z Z Z f Z fun a f=>q_p 4 8 Z f (fun _=>AL (f.eval Z) (f.eval Z) As) fun a f=>Ak 6 8 Z f Z fun a f=>BJ (i:=1) Z (by kernel_rfl) Z fun bL w bM m bN bN=> ?_
  have h0:=rd1 bM h0
  have bK:=Ow.mono (RSl.mono (RI.mono _)) bM bK
  obtain⟨bO,bP,hd⟩:=bind_some hd
  refine AF f Z Tryz.call113 (Wk.d1 m h0 bP) fun bQ bR bS w bT m bU a f=> ?_
  obtain⟨bV,bW,rfl,rfl,bX⟩:=bU
  have h0:=rd1 bT h0
  have bK:=Ow.mono (RSl.mono (RI.mono _)) bT bK
  refine Aa ?_
  refine bN bR [bW] _ _ bT m ?_
  refine BJ (i:=5) Z (by kernel_rfl) Z fun bY w bZ m b0 b0=> ?_
  have h0:=rd1 bZ h0
  have bX:=od1 bZ bX
  have bK:=Ow.mono (RSl.mono (RI.mono _)) bZ bK
  obtain⟨b1,b2,hd⟩:=bind_some hd
  refine AF f Z Tryz.call112 (Wk.T0 m bX b2) fun b3 b4 b5 w b6 m b7 a f=> ?_
  obtain⟨b8,b9,rfl,rfl,ca⟩:=b7
  have h0:=rd1 b6 h0
  have bK:=Ow.mono (RSl.mono (RI.mono _)) b6 bK
  refine Aa ?_
  refine b0 b4 [b9] _ _ b6 m ?_
  refine q_p 7 8 Z f (fun _=>BD (f.eval Z)) fun a f=>AV fun cb w cc m=> ?_
  have h0:=rd1 cc h0
  have ca:=od1 cc ca
  have bK:=Ow.mono (RSl.mono (RI.mono _)) cc bK
  refine Ad f Z fun a f=>Aa ?_
  refine Ap ?_
  have m:=m.eraseAt 2
  obtain rfl:=sj hd
  exact⟨[b8,aj],⟨f.get _ _ Z,f.get _ _ Z,trivial⟩,f.defers,_,[b9,bJ],(gt bA (gt bH (gt bM (gt bT (gt bZ (gt b6 cc)))))),m,_,_,_,_,Z,Z,ca,bK⟩
theorem Wk.N0 {W w:World}{G:GH}{H:List Itm}{v0:Value}{x0:(List Int)}(hW:Cs W)(m:Mem W G w (H))(h0:RSl (RI .u32) G v0 x0){y:((List (List Int)))}(hd:D.N0 x0=some y):
  Calls Tryz.prog 78 #[v0] w (Res W G H (fun G' Ho v=>∃r0:Value,∃i0:Itm,Ho=[i0]∧r0=v∧Ow2 (RI .i64) 31 2 G' i0 r0 y)):=by
 refine Ar (args:=[v0]) (N:=20) [.tmp 2] Tryz.func78 Z Z (Nat.le_of_ble_eq_true Z) Z fun a f=> ?_
 unfold D.N0 at hd
 refine Ac ?_
 refine Ad f Z fun a f=>Aa (Ac ?_)
 refine A5 (R:=RawS) (xs:=[]) RawS.one m T27 f Z Z Z (by decide) (All2.nil _) fun aa ab w a m ac f=> ?_
 obtain⟨ad,m,ae⟩:=Ow2.of_empty (RI .i64) 2 m ac
 refine Ad f Z fun a f=>Aa (Af (Ac ?_))
 refine Ab f Z fun a f=>AX Tryz.underlying60 f Z Z h0 fun a f=>Ab f Z fun a f=>Aa ?_
 obtain⟨af,ag,hd⟩:=bind_some hd
 refine AE (fun a w=>∃ah:List (List Int),ah=af∧∃(ai:GH) (aj:Value) (ak:Itm),GLe G ai∧Fr a 20 [(3,aj)]∧Mem W ai w (ak::H)∧Ow2 (RI .i64) 31 2 ai ak aj ah) ?_ ?_
 ·refine Ai ?_
  refine AB (fun al a w=>∃am:List (List Int),∃an:Int,(am,an)=al∧∃(ao:GH) (ap:Value) (aq:Itm),GLe G ao∧Fr a 20 [(3,ap),(7,v0),(8,(.int .i64 (x0.length:Int))),(9,(.int .i64 an))]∧Mem W ao w (aq::H)∧Ow2 (RI .i64) 31 2 ao aq ap am) ag ⟨_,_,Z,_,ab,ad,gr,f.k Z,m,ae⟩ ?_
  clear ag f m
  rintro al ar au av a w ⟨am,an,rfl,ao,ap,aq,aw,f,m,ax⟩
  have h0:=rd1 aw h0
  refine Ac ?_
  refine Ag f Z Z AD fun a f=>Aa (Af ?_)
  rcases Ae au with⟨ay,au⟩|⟨ay,au⟩
  ·refine Am f Z ay ?_
   refine An ?_
   refine Af (Ai (Ac ?_))
   obtain⟨az,aA,au⟩:=bind_some au
   refine Bb T60 f Z Z Z h0 aA fun aB aC a aD aE f=> ?_
   subst aE
   refine Az m DN f Z Z aD fun a f=>Ad f Z fun a f=>Aa (Aj ?_)
   refine Ab f Z fun a f=>Ab f Z fun a f=> ?_
   obtain⟨aF,aG,au⟩:=bind_some au
   refine AF f Z Tryz.call57 (Wk.y hW m aG) fun aH aI aJ w aK m aL a f=> ?_
   obtain⟨aM,aN,rfl,rfl,aO⟩:=aL
   have h0:=rd1 aK h0
   have ax:=od2 aK ax
   refine A5 (R:=RawS) (xs:=[aM]) RawS.one m T27 f Z Z Z (by decide) (All2.cons ⟨Z,Ow.one1 0 m aO Z,Ow.cells 0 m aO Z⟩ (All2.nil _)) fun aP aQ w a m aR f=> ?_
   have m:=m.front 1 rfl
   have m:=m.front 2 rfl
   obtain⟨aS,aT,au⟩:=bind_some au
   refine EB m ax aO aR T27 Z (by decide) f Z Z Z aT fun aU aV w a m aW f=>Ad f Z fun a f=>Aa (Aj ?_)
   refine Ag f Z Z As fun a f=>Ab f Z fun a f=>Aa ?_
   obtain rfl:=sj au
   exact⟨_,Z,_,_,Z,_,aV,aU,(gt aw aK),f.k Z,m,aW⟩
  ·refine Ah f Z ay ?_
   refine Ax Z ?_
   obtain rfl:=sj au
   obtain rfl:=av _ rfl
   exact⟨_,Z,_,ap,aq,aw,f.k Z,m,ax⟩
 ·rintro a w ⟨ah,rfl,ai,aj,ak,aX,f,m,aY⟩
  refine Ac ?_
  refine Ab f Z fun a f=>Ad f Z fun a f=>Aa ?_
  refine Ap ?_
  obtain rfl:=sj hd
  exact⟨[aj],⟨f.get _ _ Z,trivial⟩,f.defers,_,[ak],aX,m,_,_,Z,Z,aY⟩
theorem Wk.i0 {W w:World}{G:GH}{H:List Itm}{v0_0:Value}{v0_1:Value}{x0_0:(List (List Int))}{x0_1:(List (List Int))}(hW:Cs W)(m:Mem W G w (H))(h0_0:RSl (RSl (RI .i64)) G v0_0 x0_0)(h0_1:RSl (RSl (RI .i64)) G v0_1 x0_1){y:((List (List Int)))×((List (List Int)))}(hd:D.i0 x0_0 x0_1=some y):
  Calls Tryz.prog 37 #[(.agg #[v0_0,v0_1])] w (Res W G H (fun G' Ho v=>∃r0:Value,∃i0:Itm,∃r2:Value,∃i2:Itm,Ho=[i0,i2]∧v=(.agg #[r0,r2])∧Ow2 (RI .i64) 31 2 G' i0 r0 y.1∧Ow2 (RI .i64) 31 2 G' i2 r2 y.2)):=by
 refine Ar (args:=[(.agg #[v0_0,v0_1])]) (N:=91) [.cell 2 36] Tryz.func37 Z Z (Nat.le_of_ble_eq_true Z) Z fun a f=> ?_
 unfold D.i0 at hd
 refine Ac ?_
 refine Bn (cs:=[v0_0,v0_1]) m f Z Z Z fun aa w a m f=>BF (cs:=[(.slice none 0 0),(.slice none 0 0)]) Tryz.zeroValue36 m f Z Z fun ab w a m f=>Aa (Af ?_)
 refine A7 8 AJ (by kernel_rfl) m ?_
 refine Cg 0 8 Tryz.underlying36 Z Tryz.sizeOf27 Z f Z fun a f=>BS 1 8 1 Bk Z Z Z f Z fun a f=>Cg 3 8 Tryz.underlying36 Z Tryz.sizeOf27 Z f Z fun a f=>BS 4 8 1 Bk Z Z Z f Z fun a f=>BJ (i:=2) Z (by kernel_rfl) Z fun ac w ad m ae ae=> ?_
 have h0_0:=rd2 ad h0_0
 have h0_1:=rd2 ad h0_1
 obtain⟨af,ag,hd⟩:=bind_some hd
 refine AF f Z Tryz.call73 (Wk.B0 m h0_0 ag) fun ah ai aj w ak m al a f=> ?_
 obtain⟨am,an,rfl,rfl,ao⟩:=al
 have h0_0:=rd2 ak h0_0
 have h0_1:=rd2 ak h0_1
 refine Aa ?_
 refine ae ai [an] _ _ ak m ?_
 refine BJ (i:=5) Z (by kernel_rfl) Z fun ap w aq m ar ar=> ?_
 have h0_0:=rd2 aq h0_0
 have h0_1:=rd2 aq h0_1
 have ao:=od1 aq ao
 obtain⟨au,av,hd⟩:=bind_some hd
 refine AF f Z Tryz.call74 (Wk.Y0 m h0_1 av) fun aw ax ay w az m aA a f=> ?_
 obtain⟨aB,aC,rfl,rfl,aD⟩:=aA
 have h0_0:=rd2 az h0_0
 have h0_1:=rd2 az h0_1
 have ao:=od1 az ao
 refine Aa ?_
 refine ar ax [aC,an] _ _ az m ?_
 refine q_p 6 8 Z f (fun _=>BD (f.eval Z)) fun a f=>q_p 7 8 Z f (fun _=>BD (f.eval Z)) fun a f=>AV fun aE w aF m=> ?_
 have h0_0:=rd2 aF h0_0
 have h0_1:=rd2 aF h0_1
 have aD:=Ow.mono (RSl.mono (RI.mono _)) aF aD
 have ao:=od1 aF ao
 refine Aa (Ac ?_)
 refine Ab f Z fun a f=> ?_
 obtain⟨aG,aH,hd⟩:=bind_some hd
 refine AF f Z Tryz.call75 (Ow.sortCall aD m (fun Z hZ=>(Bi aH hZ).imp (fun zs h=>⟨h.2.1,h.2.2,fun _ _ m o=>Wk.P m o h.1⟩))) fun aI aJ aK w aL m aM a f=> ?_
 obtain⟨aN,rfl,aO⟩:=aM
 have h0_0:=rd2 aL h0_0
 have h0_1:=rd2 aL h0_1
 have ao:=od1 aL ao
 refine Aa (Af (Ac ?_))
 refine Ad f Z fun a f=>Aa ?_
 obtain⟨aP,aQ,hd⟩:=bind_some hd
 refine AE (fun a w=>∃aR:List Int,∃aS:List (List Int),(aR,aS)=aP∧∃(aT:GH) (aU:Value) (aV:Itm) (aW:Value) (aX:Itm),GLe aJ aT∧Fr a 91 [(2,(.pointer (some ⟨ab,0,none⟩))),(3,aU),(4,aW)]∧Mem W aT w (Itm.box ab 36 [(.slice none 0 0),(.slice none 0 0)]::aV::aX::H)∧Ow (RI .u32) 65 aT aV aU aR∧Ow (RSl (RI .i64)) 31 aT aX aW aS) ?_ ?_
 ·refine Ai ?_
  have m:=m.front 1 rfl
  have m:=m.front 2 rfl
  have m:=m.eraseAt 3
  refine AB (fun aY a w=>∃aZ:List Int,∃a2:List (List Int),∃a3:Bool,(aZ,a2,a3)=aY∧∃(a4:GH) (a5:Value) (a6:Itm) (a7:Value) (a8:Itm),GLe aJ a4∧Fr a 91 [(2,(.pointer (some ⟨ab,0,none⟩))),(3,a5),(4,a7),(5,(.bool a3))]∧Mem W a4 w (Itm.box ab 36 [(.slice none 0 0),(.slice none 0 0)]::a6::a8::H)∧Ow (RI .u32) 65 a4 a6 a5 aZ∧Ow (RSl (RI .i64)) 31 a4 a8 a7 a2) aQ ⟨_,_,_,Z,_,am,an,aB,aN,gr,f.k Z,m,ao,aO⟩ ?_
  clear aQ f m
  rintro aY a9 ba bb a w ⟨aZ,a2,a3,rfl,a4,a5,a6,a7,a8,bc,f,m,bd,be⟩
  refine Af (Ac ?_)
  refine Ab f Z fun a f=>Aa ?_
  rcases Ae ba with⟨bf,ba⟩|⟨bf,ba⟩
  ·refine Am f Z bf ?_
   refine An ?_
   refine Ai (Ac ?_)
   refine Ad f Z fun a f=>Aa (Ac ?_)
   refine Ab f Z fun a f=>Bl 2 m be Z Tryz.underlying27 f Z Z fun a f=>Ab f Z fun a f=>Aa ?_
   obtain⟨bg,bh,ba⟩:=bind_some ba
   refine AE (fun a w=>∃bi:List Int,∃bj:List (List Int),∃bk:Bool,(bi,bj,bk)=bg∧∃(bl:GH) (bm:Value) (bn:Itm) (bo:Value) (bp:Itm),GLe a4 bl∧Fr a 91 [(2,(.pointer (some ⟨ab,0,none⟩))),(3,bm),(4,bo),(5,(.bool bk))]∧Mem W bl w (Itm.box ab 36 [(.slice none 0 0),(.slice none 0 0)]::bn::bp::H)∧Ow (RI .u32) 65 bl bn bm bi∧Ow (RSl (RI .i64)) 31 bl bp bo bj) ?_ ?_
   ·refine Ai ?_
    refine AB (fun bq a w=>∃br:Int,br=bq∧∃(bs:GH),GLe a4 bs∧Fr a 91 [(2,(.pointer (some ⟨ab,0,none⟩))),(3,a5),(4,a7),(5,(.bool false)),(22,a7),(23,(.int .i64 (a2.length:Int))),(24,(.int .i64 br))]∧Mem W bs w (Itm.box ab 36 [(.slice none 0 0),(.slice none 0 0)]::a6::a8::H)) bh ⟨_,Z,_,gr,f.k Z,m⟩ ?_
    clear bh f m
    rintro bq bt bu bv a w ⟨br,rfl,bs,bw,f,m⟩
    have bd:=od1 bw bd
    have be:=Ow.mono (RSl.mono (RI.mono _)) bw be
    refine Ac ?_
    refine Ag f Z Z AD fun a f=>Aa (Af ?_)
    rcases Ae bu with⟨bx,bu⟩|⟨bx,bu⟩
    ·refine Am f Z bx ?_
     refine An ?_
     refine Af (Ai (Ac ?_))
     obtain⟨bz,bA,bu⟩:=bind_some bu
     refine AQ 2 m be Z T27 f Z Z Z bA fun bB a bC f=>Br 2 m be Z AS f Z Z bC bA fun bD a bE f=>Ad f Z fun a f=>Aa (Af ?_)
     refine A7 8 AJ (by kernel_rfl) m ?_
     refine Ak 0 8 Z f Z fun a f=> ?_
     obtain⟨bF,bG,bu⟩:=bind_some bu
     refine BZ 1 8 T31 bE bG Z f Z Z fun bH bI a bJ bK f=> ?_
     subst bK
     refine B2 2 8 Pl2 bJ Z f Z fun a f=>Ak 3 8 Z f Z fun a f=> ?_
     obtain⟨bL,bM,bu⟩:=bind_some bu
     refine BZ 4 8 T31 bE bM Z f Z Z fun bN bO a bP bQ f=> ?_
     subst bQ
     refine B2 5 8 Pl2 bP Z f Z fun a f=>q_p 6 8 Z f (fun _=>BD (f.eval Z)) fun a f=>q_p 7 8 Z f (fun _=>BD (f.eval Z)) fun a f=>AV fun bR w bS m=> ?_
     have bE:=rd1 bS bE
     have bJ:=At.mono bS bJ
     have bP:=At.mono bS bP
     have bd:=od1 bS bd
     have be:=Ow.mono (RSl.mono (RI.mono _)) bS be
     refine Aa (Af (Ai (Af ?_)))
     refine A7 11 AJ (by kernel_rfl) m ?_
     refine Ak 0 11 Z f Z fun a f=>Ak 1 11 Z f Z fun a f=> ?_
     obtain⟨bT,bU,bu⟩:=bind_some bu
     refine AT 2 11 1 m bd T60 bU Z f Z Z fun bV a bW f=>Ba 3 11 1 bd DN bW bU Z f Z fun bX a bY f=> ?_
     subst bY
     refine Ak 4 11 Z f Z fun a f=>Ak 5 11 Z f Z fun a f=> ?_
     obtain⟨bZ,b0,bu⟩:=bind_some bu
     refine AT 6 11 1 m bd T60 b0 Z f Z Z fun b1 a b2 f=>Ba 7 11 1 bd DN b2 b0 Z f Z fun b3 a b4 f=> ?_
     subst b4
     refine q_p 8 11 Z f (fun _=>AL (f.eval Z) (f.eval Z) CZ) fun a f=>q_p 9 11 Z f (fun _=>AL (f.eval Z) (f.eval Z) BG) fun a f=>q_p 10 11 Z f (fun _=>BD (f.eval Z)) fun a f=>AV fun b5 w b6 m=> ?_
     have bE:=rd1 b6 bE
     have bd:=od1 b6 bd
     have be:=Ow.mono (RSl.mono (RI.mono _)) b6 be
     refine Aa ?_
     rcases Ae bu with⟨b7,bu⟩|⟨b7,bu⟩
     ·refine Am f Z b7 ?_
      refine Aj ?_
      refine Ab f Z fun a f=>Ab f Z fun a f=>Ab f Z fun a f=>Ab f Z fun a f=> ?_
      have m:Mem W b5 w (a6::Itm.box ab 36 [(.slice none 0 0),(.slice none 0 0)]::a8::H):=m.front 1 rfl
      obtain⟨b8,b9,m,ca⟩:=Ow.stamp (RI.mono _) bd m
      have bE:=rd1 b9 bE
      have be:=Ow.mono (RSl.mono (RI.mono _)) b9 be
      have m:=m.front 1 rfl
      obtain⟨cb,cc,m,cd⟩:=Ow.stamp (RSl.mono (RI.mono _)) be m
      have ca:=rd1 cc ca
      have bE:=rd1 cc bE
      obtain⟨ce,cf,bu⟩:=bind_some bu
      refine AF f Z Tryz.call77 (Wk.e m ca cd cf) fun cg ch ci w cj m ck a f=> ?_
      obtain⟨cl,cm,cn,co,rfl,rfl,cp,cq⟩:=ck
      have ca:=rd1 cj ca
      have cd:=rd2 cj cd
      have bE:=rd1 cj bE
      refine Ab f Z fun a f=>l_o f (Bt (f.eval Z) Z) fun a f=>l_o f (Bt (f.eval Z) Z) fun a f=>Ad f Z fun a f=>Ad f Z fun a f=>Aa (Ac ?_)
      refine Ad f Z fun a f=>Aa ?_
      refine Ax Z ?_
      have m:Mem W ch w (Itm.box ab 36 [(.slice none 0 0),(.slice none 0 0)]::cm::co::H):=m.front 2 rfl
      obtain rfl:=sj bu
      obtain rfl:=bv _ rfl
      exact⟨_,_,_,Z,_,cl,cm,cn,co,(gt bw (gt bS (gt b6 (gt b9 (gt cc cj))))),f.k Z,m,cp,cq⟩
     ·refine Ah f Z b7 ?_
      refine Af ?_
      refine A7 11 AJ (by kernel_rfl) m ?_
      refine Ak 0 11 Z f Z fun a f=>Ak 1 11 Z f Z fun a f=> ?_
      obtain⟨cr,ct,bu⟩:=bind_some bu
      refine AT 2 11 1 m bd T60 ct Z f Z Z fun cu a cv f=>Ba 3 11 1 bd DN cv ct Z f Z fun cw a cx f=> ?_
      subst cx
      refine Ak 4 11 Z f Z fun a f=>Ak 5 11 Z f Z fun a f=> ?_
      obtain⟨cy,cz,bu⟩:=bind_some bu
      refine AT 6 11 1 m bd T60 cz Z f Z Z fun cA a cB f=>Ba 7 11 1 bd DN cB cz Z f Z fun cC a cD f=> ?_
      subst cD
      refine q_p 8 11 Z f (fun _=>AL (f.eval Z) (f.eval Z) CZ) fun a f=>q_p 9 11 Z f (fun _=>AL (f.eval Z) (f.eval Z) BG) fun a f=>q_p 10 11 Z f (fun _=>BD (f.eval Z)) fun a f=>AV fun cE w cF m=> ?_
      have bE:=rd1 cF bE
      have bd:=od1 cF bd
      have be:=Ow.mono (RSl.mono (RI.mono _)) cF be
      refine Aa ?_
      rcases Ae bu with⟨cG,bu⟩|⟨cG,bu⟩
      ·refine Am f Z cG ?_
       refine Aj ?_
       refine Ab f Z fun a f=>Ab f Z fun a f=>Ab f Z fun a f=>Ab f Z fun a f=> ?_
       have m:Mem W cE w (a6::Itm.box ab 36 [(.slice none 0 0),(.slice none 0 0)]::a8::H):=m.front 1 rfl
       obtain⟨cH,cI,m,cJ⟩:=Ow.stamp (RI.mono _) bd m
       have bE:=rd1 cI bE
       have be:=Ow.mono (RSl.mono (RI.mono _)) cI be
       have m:=m.front 1 rfl
       obtain⟨cK,cL,m,cM⟩:=Ow.stamp (RSl.mono (RI.mono _)) be m
       have cJ:=rd1 cL cJ
       have bE:=rd1 cL bE
       obtain⟨cN,cO,bu⟩:=bind_some bu
       refine AF f Z Tryz.call77 (Wk.e m cJ cM cO) fun cP cQ cR w cS m cT a f=> ?_
       obtain⟨cU,cV,cW,cX,rfl,rfl,cY,cZ⟩:=cT
       have cJ:=rd1 cS cJ
       have cM:=rd2 cS cM
       have bE:=rd1 cS bE
       refine Ab f Z fun a f=>l_o f (Bt (f.eval Z) Z) fun a f=>l_o f (Bt (f.eval Z) Z) fun a f=>Ad f Z fun a f=>Ad f Z fun a f=>Aa (Ac ?_)
       refine Ad f Z fun a f=>Aa ?_
       refine Ax Z ?_
       have m:Mem W cQ w (Itm.box ab 36 [(.slice none 0 0),(.slice none 0 0)]::cV::cX::H):=m.front 2 rfl
       obtain rfl:=sj bu
       obtain rfl:=bv _ rfl
       exact⟨_,_,_,Z,_,cU,cV,cW,cX,(gt bw (gt bS (gt b6 (gt cF (gt cI (gt cL cS)))))),f.k Z,m,cY,cZ⟩
      ·refine Ah f Z cG ?_
       refine Ax Z ?_
       refine Aj ?_
       refine Ag f Z Z As fun a f=>Ab f Z fun a f=>Aa ?_
       obtain rfl:=sj bu
       exact⟨_,Z,_,Z,_,(gt bw (gt bS (gt b6 cF))),f.k Z,m⟩
    ·refine Ah f Z bx ?_
     refine Ax Z ?_
     obtain rfl:=sj bu
     obtain rfl:=bv _ rfl
     exact⟨_,_,_,Z,_,a5,a6,a7,a8,bw,f.k Z,m,bd,be⟩
   ·rintro a w ⟨bi,bj,bk,rfl,bl,bm,bn,bo,bp,c0,f,m,c1,c2⟩
    obtain rfl:=sj ba
    exact⟨_,Z,_,_,_,Z,_,bm,bn,bo,bp,(gt bc c0),f.k Z,m,c1,c2⟩
  ·refine Ah f Z bf ?_
   refine Ax Z ?_
   obtain rfl:=sj ba
   obtain rfl:=bb _ rfl
   exact⟨_,_,Z,_,a5,a6,a7,a8,bc,f.k Z,m,bd,be⟩
 ·rintro a w ⟨aR,aS,rfl,aT,aU,aV,aW,aX,c3,f,m,c4,c5⟩
  refine Ac ?_
  refine Ab f Z fun a f=> ?_
  obtain⟨c6,c7,hd⟩:=bind_some hd
  refine AF f Z Tryz.call78 (Ow.lendCall (RI.mono _) 1 c4 m Z (fun c8 c9 m da=>Wk.N0 hW m da c7) (fun _ G' _ _ ⟨a0,a1,e1,e2,o0⟩=>⟨a0,a1,e1,e2,Ow2.free (RI.free _) G' o0⟩)) fun db dc dd w de m df a f=> ?_
  obtain⟨dg,dh,rfl,rfl,di⟩:=df
  have c4:=od1 de c4
  have c5:=Ow.mono (RSl.mono (RI.mono _)) de c5
  have dj:∀w,(Instr.build 36 #[(0,dg)]).run Tryz.prog w= .ok (.agg #[dg,(.slice none 0 0)]) w:=by intro w;simp[Instr.build,Instr.fill,(Ow2.cells 0 m di rfl),CM,Cx,B9,Cn,BY,Cu]
  refine Dc f Z Z dj fun a f=>BF (cs:=[(.slice none 0 0),(.slice none 0 0)]) Tryz.zeroValue36 m f Z Z fun dk w a m f=>AR 0 0 (ds:=[dg,(.slice none 0 0)]) m Tryz.sizeOf36 f Z Z Z (AM (Ow2.one1 1 m di Z) (AM Z A6)) Z (Nat.le_of_ble_eq_true Z) Z fun w m=>Aa (Af (Ac ?_))
  refine Ab f Z fun a f=>Bl 4 m c5 Z Tryz.underlying27 f Z Z fun a f=>Ab f Z fun a f=>Aa ?_
  obtain⟨dl,m,dm⟩:=Ow2.nil (RI .i64) 31 2 m
  obtain⟨dn,dp,hd⟩:=bind_some hd
  refine AE (fun a w=>∃dq:List (List Int),dq=dn∧∃(dr:GH) (dt:Value) (du:Itm),GLe dc dr∧Fr a 91 [(2,(.pointer (some ⟨ab,0,none⟩))),(10,(.pointer (some ⟨dk,0,none⟩)))]∧Mem W dr w (Itm.box ab 36 [(.slice none 0 0),(.slice none 0 0)]::Itm.box dk 36 [dg,dt]::dh::du::H)∧Ow2 (RI .i64) 31 2 dr du dt dq) ?_ ?_
  ·refine Ai ?_
   have m:=m.front 2 rfl
   have m:=m.front 5 rfl
   have m:Mem W dc w (Itm.box dk 36 [dg,(.slice none 0 0)]::aX::dh::dl::Itm.box ab 36 [(.slice none 0 0),(.slice none 0 0)]::aV::H):=m.front 3 rfl
   have m:=m.front 4 rfl
   have m:Mem W dc w (Itm.box ab 36 [(.slice none 0 0),(.slice none 0 0)]::Itm.box dk 36 [dg,(.slice none 0 0)]::aX::dh::dl::H):=m.eraseAt 5
   refine AB (fun dv a w=>∃dw:Int,∃dx:List (List Int),(dw,dx)=dv∧∃(dy:GH) (dz:Value) (dA:Itm),GLe dc dy∧Fr a 91 [(2,(.pointer (some ⟨ab,0,none⟩))),(10,(.pointer (some ⟨dk,0,none⟩))),(76,aW),(77,(.int .i64 (aS.length:Int))),(78,(.int .i64 dw))]∧Mem W dy w (Itm.box ab 36 [(.slice none 0 0),(.slice none 0 0)]::Itm.box dk 36 [dg,dz]::aX::dh::dA::H)∧Ow2 (RI .i64) 31 2 dy dA dz dx) dp ⟨_,_,Z,_,(.slice none 0 0),dl,gr,f.k Z,m,dm⟩ ?_
   clear dp f m
   rintro dv dB dC dD a w ⟨dw,dx,rfl,dy,dz,dA,dE,f,m,dF⟩
   have c5:=Ow.mono (RSl.mono (RI.mono _)) dE c5
   have di:=od2 dE di
   refine Ac ?_
   refine Ag f Z Z AD fun a f=>Aa (Af ?_)
   rcases Ae dC with⟨dG,dC⟩|⟨dG,dC⟩
   ·refine Am f Z dG ?_
    refine An ?_
    refine Af (Ai (Ac ?_))
    obtain⟨dH,dI,dC⟩:=bind_some dC
    refine AQ 2 m c5 Z T27 f Z Z Z dI fun dJ a dK f=>Br 2 m c5 Z AS f Z Z dK dI fun dL a dM f=>Ad f Z fun a f=>Aa ?_
    refine A7 5 AJ (by kernel_rfl) m ?_
    refine Cg 0 5 Tryz.underlying36 Z Tryz.sizeOf27 Z f Z fun a f=>BS 1 5 1 Bk Z Z Z f Z fun a f=>Ak 2 5 Z f Z fun a f=>BJ (i:=3) Z (by kernel_rfl) Z fun dN w dO m dP dP=> ?_
    have dM:=rd1 dO dM
    have c5:=Ow.mono (RSl.mono (RI.mono _)) dO c5
    have di:=od2 dO di
    have dF:=od2 dO dF
    obtain⟨dQ,dR,dC⟩:=bind_some dC
    refine AF f Z Tryz.call79 (Wk.x0 m dM dR) fun dS dT dU w dV m dW a f=> ?_
    obtain⟨dX,dY,rfl,rfl,dZ⟩:=dW
    have dM:=rd1 dV dM
    have c5:=Ow.mono (RSl.mono (RI.mono _)) dV c5
    have di:=od2 dV di
    have dF:=od2 dV dF
    refine Aa ?_
    refine dP dT [dY] _ _ dV m ?_
    refine BJ (i:=4) Z (by kernel_rfl) Z fun d0 w d1 m d2 d2=> ?_
    have dM:=rd1 d1 dM
    have dZ:=od1 d1 dZ
    have c5:=Ow.mono (RSl.mono (RI.mono _)) d1 c5
    have di:=od2 d1 di
    have dF:=od2 d1 dF
    refine A5 (R:=RawS) (xs:=[dX]) RawS.one m T27 f Z Z Z (by decide) (All2.cons ⟨Z,Ow.one1 0 m dZ Z,Ow.cells 0 m dZ Z⟩ (All2.nil _)) fun d3 d4 w a m d5 f=>Aa ?_
    refine d2 d0 [d3,dY] _ _ gr m ?_
    refine AV fun d6 w d7 m=> ?_
    have dM:=rd1 d7 dM
    have d5:=Ow.mono RawS.mono d7 d5
    have dZ:=od1 d7 dZ
    have c5:=Ow.mono (RSl.mono (RI.mono _)) d7 c5
    have di:=od2 d7 di
    have dF:=od2 d7 dF
    have m:=m.front 1 rfl
    have m:Mem W d6 w (dA::dY::d3::Itm.box ab 36 [(.slice none 0 0),(.slice none 0 0)]::Itm.box dk 36 [dg,dz]::aX::dh::H):=m.front 6 rfl
    obtain⟨d8,d9,dC⟩:=bind_some dC
    refine EB m dF dZ d5 T27 Z (by decide) f Z Z Z d9 fun ea eb w a m ec f=>Bo Tryz.underlying36 Z Tryz.sizeOf27 f Z fun a f=>AR 2 1 (ds:=[eb]) m Tryz.sizeOf27 f Z Z (Ow2.cells 0 m ec Z) (AM (Ow2.one1 0 m ec Z) A6) Z (Nat.le_of_ble_eq_true Z) Z fun w m=>Aa (Aj ?_)
    refine Ag f Z Z As fun a f=>Ab f Z fun a f=>Aa ?_
    have m:=m.front 4 rfl
    have m:=m.front 4 rfl
    have m:Mem W d6 w (Itm.box dk 36 [dg,eb]::aX::dh::ea::Itm.box ab 36 [(.slice none 0 0),(.slice none 0 0)]::H):=m.front 4 rfl
    have m:Mem W d6 w (Itm.box ab 36 [(.slice none 0 0),(.slice none 0 0)]::Itm.box dk 36 [dg,eb]::aX::dh::ea::H):=m.front 4 rfl
    obtain rfl:=sj dC
    exact⟨_,Z,_,_,Z,_,eb,ea,(gt dE (gt dO (gt dV (gt d1 d7)))),f.k Z,m,ec⟩
   ·refine Ah f Z dG ?_
    refine Ax Z ?_
    have m:=m.front 4 rfl
    have m:=m.front 4 rfl
    have m:Mem W dy w (Itm.box dk 36 [dg,dz]::dh::dA::Itm.box ab 36 [(.slice none 0 0),(.slice none 0 0)]::aX::H):=m.front 3 rfl
    have m:=m.front 3 rfl
    have m:Mem W dy w (Itm.box ab 36 [(.slice none 0 0),(.slice none 0 0)]::Itm.box dk 36 [dg,dz]::dh::dA::H):=m.eraseAt 4
    obtain rfl:=sj dC
    obtain rfl:=dD _ rfl
    exact⟨_,Z,_,dz,dA,dE,f.k Z,m,dF⟩
  ·rintro a w ⟨dq,rfl,dr,dt,du,ed,f,m,ee⟩
   have di:=od2 ed di
   refine Ac ?_
   refine AA 1 0 (ds:=[dg,dt]) m Dq f Z Z Z Z Z fun a f=>AR 0 0 (ds:=[dg,dt]) m Tryz.sizeOf36 f Z Z Z (AM (Ow2.one1 2 m di Z) (AM (Ow2.one1 3 m ee Z) A6)) Z (Nat.le_of_ble_eq_true Z) Z fun w m=>Aa ?_
   refine Ap ?_
   have ef:=CL (P:=Tryz.prog) 0 m Dq f (s:=2) rfl rfl rfl
   have m:=m.front 3 rfl
   have m:=m.front 3 rfl
   have m:Mem W dr w (dh::du::Itm.box ab 36 [dg,dt]::H):=m.eraseAt 3
   have m:=m.eraseAt 2
   obtain rfl:=sj hd
   exact⟨[(.agg #[dg,dt])],⟨ef,trivial⟩,f.defers,_,[dh,du],(gt ad (gt ak (gt aq (gt az (gt aF (gt aL (gt c3 (gt de ed)))))))),m,_,_,_,_,Z,Z,di,ee⟩
theorem Wk.m0 {W w:World}{G:GH}{H:List Itm}{v0_0:Value}{x0_0:(List (List Int))}(hW:Cs W)(m:Mem W G w (H))(h0_0:RSl (RSl (RI .i64)) G v0_0 x0_0){y:((List (List Int)))×((List (List Int)))×Bool}(hd:D.m0 x0_0=some y):
  Calls Tryz.prog 11 #[(.agg #[v0_0])] w (Res W G H (fun G' Ho v=>∃r0:Value,∃i0:Itm,∃r2:Value,∃i2:Itm,Ho=[i0,i2]∧v= .tuple #[(.agg #[r0,r2]),(.bool y.2.2)]∧Ow2 (RI .i64) 31 2 G' i0 r0 y.1∧Ow2 (RI .i64) 31 2 G' i2 r2 y.2.1)):=by
 refine Ar (args:=[(.agg #[v0_0])]) (N:=16) [.cell 2 36,.tmp 3] Tryz.func11 Z Z (Nat.le_of_ble_eq_true Z) Z fun a f=> ?_
 unfold D.m0 at hd
 refine Ac ?_
 refine Bn (cs:=[v0_0]) m f Z Z Z fun aa w a m f=>BF (cs:=[(.slice none 0 0),(.slice none 0 0)]) Tryz.zeroValue36 m f Z Z fun ab w a m f=>Ad f Z fun a f=>Aa (Af (Ac ?_))
 refine AA 1 0 (ds:=[v0_0]) m AW f Z Z Z Z Z fun a f=> ?_
 obtain⟨ac,ad,hd⟩:=bind_some hd
 refine AY f Z Tryz.call31 (Wk.t m h0_0 ad) fun ae w af m a f=> ?_
 have h0_0:=rd2 af h0_0
 refine l_o f (Bp (f.eval Z)) fun a f=>Aa ?_
 rcases Ae hd with⟨ag,hd⟩|⟨ag,hd⟩
 ·refine Am f Z ag ?_
  refine Ac ?_
  have ah:∀w,(Instr.build 36 #[]).run Tryz.prog w= .ok (.agg #[(.slice none 0 0),(.slice none 0 0)]) w:=by intro w;simp[Instr.build,Instr.fill,CM,Cx,B9,Cn,BY,Cu]
  refine Dc f Z Z ah fun a f=>AR 0 0 (ds:=[(.slice none 0 0),(.slice none 0 0)]) m Tryz.sizeOf36 f Z Z Z (AM Z (AM Z A6)) Z (Nat.le_of_ble_eq_true Z) Z fun w m=>Ad f Z fun a f=>Aa ?_
  refine Ap ?_
  obtain⟨ai,m,aj⟩:=Ow2.nil (RI .i64) 31 2 m
  obtain⟨ak,m,al⟩:=Ow2.nil (RI .i64) 31 2 m
  have am:=CL (P:=Tryz.prog) 2 m Dq f (s:=2) rfl rfl rfl
  have m:=m.front 1 rfl
  have m:=m.eraseAt 3
  have m:=m.eraseAt 2
  obtain rfl:=sj hd
  exact⟨[(.agg #[(.slice none 0 0),(.slice none 0 0)]),(.bool false)],⟨am,f.get _ _ Z,trivial⟩,f.defers,_,[ai,ak],af,m,_,_,_,_,Z,Z,aj,al⟩
 ·refine Ah f Z ag ?_
  refine An ?_
  refine Ac ?_
  refine AA 1 0 (ds:=[v0_0]) m AW f Z Z Z Z Z fun a f=> ?_
  obtain⟨an,ao,hd⟩:=bind_some hd
  refine AF f Z Tryz.call33 (Wk.r m h0_0 ao) fun ap aq ar w au m av a f=> ?_
  obtain⟨aw,ax,rfl,rfl,ay⟩:=av
  have h0_0:=rd2 au h0_0
  refine Ad f Z fun a f=>Aa (Ac ?_)
  refine Ab f Z fun a f=>Ab f Z fun a f=> ?_
  obtain⟨az,aA,hd⟩:=bind_some hd
  refine AF f Z Tryz.call36 (Ow.lendCall (RI.mono _) 0 ay m Z (fun aB aC m aD=>Wk.T hW m aD aA) (fun _ G' _ _ ⟨r0,i0,h1,h2,h3⟩=>⟨r0,i0,h1,h2,Ow.free (RI.free _) G' h3⟩)) fun aE aF aG w aH m aI a f=> ?_
  obtain⟨aJ,aK,rfl,rfl,aL⟩:=aI
  have h0_0:=rd2 aH h0_0
  have ay:=od1 aH ay
  obtain⟨aM,aN,hd⟩:=bind_some hd
  refine AF f Z Tryz.call38 (Ow.lendCall (RI.mono _) 1 ay m Z (fun aO aP m aQ=>(Ow.lendCall (RI.mono _) 0 (od1 aP aL) m Z (fun aR aS m aT=>Wk.M hW m (rd1 aS aQ) aT aN) (fun _ G' _ _ ⟨a0,a1,a2,a3,e1,e2,o0,o1⟩=>⟨a0,a1,a2,a3,e1,e2,Ow2.free (RI.free _) G' o0,Ow2.free (RI.free _) G' o1⟩))) (fun _ G' _ _ ⟨a0,a1,a2,a3,e1,e2,o0,o1⟩=>⟨a0,a1,a2,a3,e1,e2,Ow2.free (RI.free _) G' o0,Ow2.free (RI.free _) G' o1⟩)) fun aU aV aW w aX m aY a f=> ?_
  obtain⟨aZ,a4,a5,a6,rfl,rfl,a7,a8⟩:=aY
  have h0_0:=rd2 aX h0_0
  have aL:=od1 aX aL
  have ay:=od1 aX ay
  obtain⟨a9,ba,hd⟩:=bind_some hd
  refine AF f Z Tryz.call37 (Ow2.lendCall (RI.mono _) 0 a7 m Z (fun bb bc m bd=>(Ow2.lendCall (RI.mono _) 0 (od2 bc a8) m Z (fun be bf m bg=>Wk.i0 hW m (rd2 bf bd) bg ba) (fun _ G' _ _ ⟨a0,a1,a2,a3,e1,e2,o0,o1⟩=>⟨a0,a1,a2,a3,e1,e2,Ow2.free (RI.free _) G' o0,Ow2.free (RI.free _) G' o1⟩))) (fun _ G' _ _ ⟨a0,a1,a2,a3,e1,e2,o0,o1⟩=>⟨a0,a1,a2,a3,e1,e2,Ow2.free (RI.free _) G' o0,Ow2.free (RI.free _) G' o1⟩)) fun bh bi bj w bk m bl a f=> ?_
  obtain⟨bm,bn,bo,bp,rfl,rfl,bq,br⟩:=bl
  have h0_0:=rd2 bk h0_0
  have a7:=od2 bk a7
  have a8:=od2 bk a8
  have aL:=od1 bk aL
  have ay:=od1 bk ay
  refine AR 6 0 (ds:=[bm,bo]) m Tryz.sizeOf36 f Z Z Z (AM (Ow2.one1 0 m bq Z) (AM (Ow2.one1 1 m br Z) A6)) Z (Nat.le_of_ble_eq_true Z) Z fun w m=>Ad f Z fun a f=>Aa ?_
  refine Ap ?_
  have bs:=CL (P:=Tryz.prog) 6 m Dq f (s:=2) rfl rfl rfl
  have m:=m.eraseAt 7
  have m:=m.eraseAt 6
  have m:Mem W bi w (bn::bp::a4::a6::aK::H):=m.eraseAt 5
  have m:=m.eraseAt 4
  have m:=m.eraseAt 3
  have m:=m.eraseAt 2
  obtain rfl:=sj hd
  exact⟨[(.agg #[bm,bo]),(.bool true)],⟨bs,f.get _ _ Z,trivial⟩,f.defers,_,[bn,bp],(gt af (gt au (gt aH (gt aX bk)))),m,_,_,_,_,Z,Z,bq,br⟩
theorem Wk.a {W w:World}{G:GH}{H:List Itm}{v0_0:Value}{x0_0:(List (List Int))}(m:Mem W G w (H))(h0_0:RSl (RSl (RI .i64)) G v0_0 x0_0){y:Int}(hd:D.a x0_0=some y):
  Calls Tryz.prog 42 #[(.agg #[v0_0])] w (Res W G H (fun _ Ho v=>Ho=[]∧v=(.int .i64 y))):=by
 refine Ar (args:=[(.agg #[v0_0])]) (N:=6) [.tmp 2] Tryz.func42 Z Z (Nat.le_of_ble_eq_true Z) Z fun a f=> ?_
 unfold D.a at hd
 refine Ac ?_
 refine Bn (cs:=[v0_0]) m f Z Z Z fun aa w a m f=>Ad f Z fun a f=>Aa (Ac ?_)
 refine Bo Tryz.underlying29 Z Tryz.sizeOf27 f Z fun a f=>AG 0 0 m Bk f Z Z Z Z fun a f=>AX Tryz.underlying27 f Z Z h0_0 fun a f=>Ad f Z fun a f=>Aa ?_
 refine Ap ?_
 have m:Mem W G w H:=Mem.drop (H':=[Itm.box aa 29 [v0_0]]) m
 obtain rfl:=sj hd
 exact⟨[(.int .i64 (x0_0.length:Int))],⟨f.get _ _ Z,trivial⟩,f.defers,_,[],gr,m,Z,Z⟩
theorem Wk.f {W w:World}{G:GH}{H:List Itm}{v0:Value}{x0:(List Int)}{x1:Int}(m:Mem W G w (H))(h0:RSl (RI .i64) G v0 x0){y:Bool}(hd:D.f x0 x1=some y):
  Calls Tryz.prog 84 #[v0,(.int .i64 x1)] w (Res W G H (fun _ Ho v=>Ho=[]∧v=(.bool y))):=by
 refine Ar (args:=[v0,(.int .i64 x1)]) (N:=18) [.tmp 4] Tryz.func84 Z Z (Nat.le_of_ble_eq_true Z) Z fun a f=> ?_
 unfold D.f at hd
 refine Ac ?_
 refine Ad f Z fun a f=>Aa (Af (Ac ?_))
 refine Ad f Z fun a f=>Aa ?_
 obtain⟨aa,ab,hd⟩:=bind_some hd
 refine AE (fun a w=>∃q_19':Unit,aa= .inl q_19'∧∃(ac:GH),GLe G ac∧Fr a 18 []∧Mem W ac w (H)) ?_ ?_
 ·refine Ai ?_
  refine AB (fun ad a w=>∃ae:Int,ae=ad∧∃(af:GH),GLe G af∧Fr a 18 [(0,v0),(1,(.int .i64 x1)),(5,(.int .i64 ae))]∧Mem W af w (H)) ab ⟨_,Z,_,gr,f.k Z,m⟩ ?_
  clear ab f m
  rintro ad ag ah ai a w ⟨ae,rfl,af,aj,f,m⟩
  have h0:=rd1 aj h0
  refine Af (Ac ?_)
  refine Ab f Z fun a f=>Ab f Z fun a f=>AX Tryz.underlying31 f Z Z h0 fun a f=>Ag f Z Z AD fun a f=>Aa ?_
  rcases Ae ah with⟨ak,ah⟩|⟨ak,ah⟩
  ·refine Am f Z ak ?_
   refine An ?_
   refine Af (Ai (Ac ?_))
   refine Ab f Z fun a f=>Ab f Z fun a f=> ?_
   obtain⟨al,am,ah⟩:=bind_some ah
   refine Bb T31 f Z Z Z h0 am fun an ao a ap aq f=> ?_
   subst aq
   refine Az m Pl2 f Z Z ap fun a f=>Ab f Z fun a f=>Ag f Z Z BG fun a f=>Aa ?_
   rcases Ae ah with⟨ar,ah⟩|⟨ar,ah⟩
   ·refine Am f Z ar ?_
    refine Ac ?_
    refine Ad f Z fun a f=>Aa ?_
    refine Ap ?_
    obtain rfl:=sj ah
    obtain rfl:=ai _ rfl
    obtain rfl:=sj hd
    exact⟨[(.bool true)],⟨f.get _ _ Z,trivial⟩,f.defers,_,[],aj,m,Z,Z⟩
   ·refine Ah f Z ar ?_
    refine An ?_
    refine Aj ?_
    refine Ab f Z fun a f=>Ag f Z Z As fun a f=>Ad f Z fun a f=>Aa ?_
    obtain rfl:=sj ah
    exact⟨_,Z,_,Z,_,aj,f.k Z,m⟩
  ·refine Ah f Z ak ?_
   refine Ax Z ?_
   obtain rfl:=sj ah
   obtain rfl:=ai _ rfl
   exact⟨_,Z,_,aj,f.weak trivial,m⟩
 ·rintro a w ⟨_,rfl,ac,au,f,m⟩
  refine Ac ?_
  refine Ad f Z fun a f=>Aa ?_
  refine Ap ?_
  obtain rfl:=sj hd
  exact⟨[(.bool false)],⟨f.get _ _ Z,trivial⟩,f.defers,_,[],au,m,Z,Z⟩
theorem Wk.u {W w:World}{G:GH}{H:List Itm}{v0_0:Value}{x0_0:(List (List Int))}(m:Mem W G w (H))(h0_0:RSl (RSl (RI .i64)) G v0_0 x0_0){y:Bool}(hd:D.u x0_0=some y):
  Calls Tryz.prog 48 #[(.agg #[v0_0])] w (Res W G H (fun _ Ho v=>Ho=[]∧v=(.bool y))):=by
 refine Ar (args:=[(.agg #[v0_0])]) (N:=64) [.tmp 2] Tryz.func48 Z Z (Nat.le_of_ble_eq_true Z) Z fun a f=> ?_
 unfold D.u at hd
 refine Ac ?_
 refine Bn (cs:=[v0_0]) m f Z Z Z fun aa w a m f=>Ad f Z fun a f=>Aa (Ac ?_)
 refine AA 0 0 (ds:=[v0_0]) m AW f Z Z Z Z Z fun a f=> ?_
 obtain⟨ab,ac,hd⟩:=bind_some hd
 refine AY f Z Tryz.call42 (Wk.a m h0_0 ac) fun ad w ae m a f=> ?_
 have h0_0:=rd2 ae h0_0
 refine Ad f Z fun a f=>Aa (Af (Ac ?_))
 refine Ab f Z fun a f=> ?_
 obtain⟨af,ag,hd⟩:=bind_some hd
 refine AY f Z Tryz.call66 (Wk.c m ag) fun ah w ai m a f=> ?_
 have h0_0:=rd2 ai h0_0
 refine l_o f (Bp (f.eval Z)) fun a f=>Aa ?_
 rcases Ae hd with⟨aj,hd⟩|⟨aj,hd⟩
 ·refine Am f Z aj ?_
  refine Ac ?_
  refine Ad f Z fun a f=>Aa ?_
  refine Ap ?_
  have m:Mem W ah w H:=Mem.drop (H':=[Itm.box aa 29 [v0_0]]) m
  obtain rfl:=sj hd
  exact⟨[(.bool false)],⟨f.get _ _ Z,trivial⟩,f.defers,_,[],(gt ae ai),m,Z,Z⟩
 ·refine Ah f Z aj ?_
  refine An ?_
  refine Af (Ac ?_)
  refine Ad f Z fun a f=>Aa ?_
  obtain⟨ak,al,hd⟩:=bind_some hd
  refine AE (fun a w=>∃q_138':Unit,ak= .inl q_138'∧∃(am:GH),GLe ah am∧Fr a 64 [(1,(.pointer (some ⟨aa,0,none⟩))),(3,(.int .i64 ab))]∧Mem W am w (Itm.box aa 29 [v0_0]::H)) ?_ ?_
  ·refine Ai ?_
   refine AB (fun an a w=>∃ao:Int,ao=an∧∃(ap:GH),GLe ah ap∧Fr a 64 [(1,(.pointer (some ⟨aa,0,none⟩))),(3,(.int .i64 ab)),(4,(.int .i64 ao))]∧Mem W ap w (Itm.box aa 29 [v0_0]::H)) al ⟨_,Z,_,gr,f.k Z,m⟩ ?_
   clear al f m
   rintro an aq ar au a w ⟨ao,rfl,ap,av,f,m⟩
   have h0_0:=rd2 av h0_0
   refine Af (Ac ?_)
   refine Ab f Z fun a f=>Ab f Z fun a f=>Ag f Z Z AD fun a f=>Aa ?_
   rcases Ae ar with⟨aw,ar⟩|⟨aw,ar⟩
   ·refine Am f Z aw ?_
    refine An ?_
    refine Af (Ai (Ac ?_))
    refine Bo Tryz.underlying29 Z Tryz.sizeOf27 f Z fun a f=>AG 0 0 m Bk f Z Z Z Z fun a f=>Ab f Z fun a f=> ?_
    obtain⟨ax,ay,ar⟩:=bind_some ar
    refine Bb T27 f Z Z Z h0_0 ay fun az aA a aB aC f=>Az m AS f Z Z aB fun a f=>Ab f Z fun a f=> ?_
    obtain⟨aD,aE,ar⟩:=bind_some ar
    refine AY f Z Tryz.call50 (Wk.q m aC aE) fun aF w aG m a f=> ?_
    have h0_0:=rd2 aG h0_0
    have aB:=At.mono aG aB
    have aC:=rd1 aG aC
    refine l_o f (Bp (f.eval Z)) fun a f=>Ab f Z fun a f=> ?_
    obtain⟨aH,aI,ar⟩:=bind_some ar
    refine Bw 8 (fun a w=>∃aJ,GLe aF aJ∧Mem W aJ w (Itm.box aa 29 [v0_0]::H)∧Fr a 64 [(1,(.pointer (some ⟨aa,0,none⟩))),(3,(.int .i64 ab)),(4,(.int .i64 ao)),(14,(.bool (decide (ao<ab)))),(17,(.pointer (some ⟨aa,0,none⟩))),(18,v0_0),(19,(.int .i64 ao)),(20,az),(21,aA),(22,(.int .i64 ab)),(23,(.bool aD)),(24,(.bool (!aD))),(25,(.bool (!aD))),(33,(.bool aH))]) ?_ ?_
    ·rcases Ae aI with⟨aK,aI⟩|⟨aK,aI⟩
     ·refine Aw f aK fun a f=> ?_
      refine Aw f aK fun a f=>Aw f aK fun a f=>Aw f aK fun a f=>Aw f aK fun a f=>Aw f aK fun a f=>Aw f aK fun a f=>l_o f (AN (f.eval Z) aK (f.eval Z)) fun a f=> ?_
      obtain rfl:=sj aI
      exact⟨_,gr,m,f.k Z⟩
     ·refine Av f aK ?_
      refine Bo Tryz.underlying29 Z Tryz.sizeOf27 f Z fun a f=>Av f aK ?_
      refine AG 0 0 m Bk f Z Z Z Z fun a f=>Av f aK ?_
      refine Ab f Z fun a f=>Av f aK ?_
      obtain⟨aL,aM,aI⟩:=bind_some aI
      refine Bb T27 f Z Z Z h0_0 aM fun aN aO a aP aQ f=>Av f aK ?_
      refine Az m AS f Z Z aP fun a f=>Av f aK ?_
      refine Ab f Z fun a f=>Av f aK ?_
      obtain⟨aR,aS,aI⟩:=bind_some aI
      refine AY f Z Tryz.call84 (Wk.f m aQ aS) fun aT w aU m a f=> ?_
      have h0_0:=rd2 aU h0_0
      have aB:=At.mono aU aB
      have aC:=rd1 aU aC
      have aP:=At.mono aU aP
      have aQ:=rd1 aU aQ
      refine l_o f (AO (f.eval Z) aK (f.eval Z)) fun a f=> ?_
      obtain rfl:=sj aI
      exact⟨_,aU,m,f.k Z⟩
    ·rintro a w ⟨aJ,aV,m,f⟩
     have h0_0:=rd2 aV h0_0
     have aB:=At.mono aV aB
     have aC:=rd1 aV aC
     refine Aa ?_
     rcases Ae ar with⟨aW,ar⟩|⟨aW,ar⟩
     ·refine Am f Z aW ?_
      refine Ac ?_
      refine Ad f Z fun a f=>Aa ?_
      refine Ap ?_
      have m:Mem W aJ w H:=Mem.drop (H':=[Itm.box aa 29 [v0_0]]) m
      obtain rfl:=sj ar
      obtain rfl:=au _ rfl
      obtain rfl:=sj hd
      exact⟨[(.bool false)],⟨f.get _ _ Z,trivial⟩,f.defers,_,[],(gt ae (gt ai (gt av (gt aG aV)))),m,Z,Z⟩
     ·refine Ah f Z aW ?_
      refine An ?_
      refine Aj ?_
      refine Ab f Z fun a f=>Ag f Z Z As fun a f=>Ad f Z fun a f=>Aa ?_
      obtain rfl:=sj ar
      exact⟨_,Z,_,Z,_,(gt av (gt aG aV)),f.k Z,m⟩
   ·refine Ah f Z aw ?_
    refine Ax Z ?_
    obtain rfl:=sj ar
    obtain rfl:=au _ rfl
    exact⟨_,Z,_,av,f.k Z,m⟩
  ·rintro a w ⟨_,rfl,am,aX,f,m⟩
   have h0_0:=rd2 aX h0_0
   refine Af (Ac ?_)
   refine Ad f Z fun a f=>Aa ?_
   obtain⟨aY,aZ,hd⟩:=bind_some hd
   refine AE (fun a w=>∃q_545':Unit,aY= .inl q_545'∧∃(a0:GH),GLe am a0∧Fr a 64 []∧Mem W a0 w (H)) ?_ ?_
   ·refine Ai ?_
    refine AB (fun a1 a w=>∃a2:Int,a2=a1∧∃(a3:GH),GLe am a3∧Fr a 64 [(1,(.pointer (some ⟨aa,0,none⟩))),(3,(.int .i64 ab)),(5,(.int .i64 a2))]∧Mem W a3 w (Itm.box aa 29 [v0_0]::H)) aZ ⟨_,Z,_,gr,f.k Z,m⟩ ?_
    clear aZ f m
    rintro a1 a4 a5 a6 a w ⟨a2,rfl,a3,a7,f,m⟩
    have h0_0:=rd2 a7 h0_0
    refine Af (Ac ?_)
    refine Ab f Z fun a f=>Ab f Z fun a f=>Ag f Z Z AD fun a f=>Aa ?_
    rcases Ae a5 with⟨a8,a5⟩|⟨a8,a5⟩
    ·refine Am f Z a8 ?_
     refine An ?_
     refine Af (Ai (Ac ?_))
     refine Ad f Z fun a f=>Aa ?_
     obtain⟨a9,ba,a5⟩:=bind_some a5
     refine AE (fun a w=>∃q_759':Unit,a9= .inl q_759'∧∃(bb:GH),GLe a3 bb∧Fr a 64 [(1,(.pointer (some ⟨aa,0,none⟩))),(3,(.int .i64 ab)),(5,(.int .i64 a2))]∧Mem W bb w (Itm.box aa 29 [v0_0]::H)) ?_ ?_
     ·refine Ai ?_
      refine AB (fun bc a w=>∃bd:Int,bd=bc∧∃(be:GH),GLe a3 be∧Fr a 64 [(1,(.pointer (some ⟨aa,0,none⟩))),(3,(.int .i64 ab)),(5,(.int .i64 a2)),(6,(.int .i64 bd))]∧Mem W be w (Itm.box aa 29 [v0_0]::H)) ba ⟨_,Z,_,gr,f.k Z,m⟩ ?_
      clear ba f m
      rintro bc bf bg bh a w ⟨bd,rfl,be,bi,f,m⟩
      have h0_0:=rd2 bi h0_0
      refine Af (Ac ?_)
      refine Ab f Z fun a f=>Bo Tryz.underlying29 Z Tryz.sizeOf27 f Z fun a f=>AG 0 0 m Bk f Z Z Z Z fun a f=>Ab f Z fun a f=> ?_
      obtain⟨bj,bk,bg⟩:=bind_some bg
      refine Bb T27 f Z Z Z h0_0 bk fun bl bm a bn bo f=>Az m AS f Z Z bn fun a f=>AX Tryz.underlying31 f Z Z bo fun a f=>Ag f Z Z AD fun a f=>Aa ?_
      rcases Ae bg with⟨bp,bg⟩|⟨bp,bg⟩
      ·refine Am f Z bp ?_
       refine An ?_
       refine Af (Ai (Af ?_))
       refine A7 15 AJ (by kernel_rfl) m ?_
       refine Cg 0 15 Tryz.underlying29 Z Tryz.sizeOf27 Z f Z fun a f=>BS 1 15 0 Bk Z Z Z f Z fun a f=>Cg 2 15 Tryz.underlying29 Z Tryz.sizeOf27 Z f Z fun a f=>BS 3 15 0 Bk Z Z Z f Z fun a f=>Ak 4 15 Z f Z fun a f=> ?_
       obtain⟨bq,br,bg⟩:=bind_some bg
       refine BZ 5 15 T27 h0_0 br Z f Z Z fun bs bt a bu bv f=>B2 6 15 AS bu Z f Z fun a f=>Ak 7 15 Z f Z fun a f=> ?_
       obtain⟨bw,bx,bg⟩:=bind_some bg
       refine BZ 8 15 T31 bv bx Z f Z Z fun bz bA a bB bC f=> ?_
       subst bC
       refine B2 9 15 Pl2 bB Z f Z fun a f=> ?_
       obtain⟨bD,bE,bg⟩:=bind_some bg
       refine BZ 10 15 T27 h0_0 bE Z f Z Z fun bF bG a bH bI f=>B2 11 15 AS bH Z f Z fun a f=>Ak 12 15 Z f Z fun a f=> ?_
       obtain⟨bJ,bK,bg⟩:=bind_some bg
       refine Ca (i:=13) 15 Z (by kernel_rfl) Z f Z Z Z Tryz.call84 (fun _ _ w bL m=>Wk.f m (rd1 bL bI) bK) fun a f=>q_p 14 15 Z f (fun _=>Bp (f.eval Z)) fun a f=>AV fun bM w bN m=> ?_
       have h0_0:=rd2 bN h0_0
       have bu:=At.mono bN bu
       have bv:=rd1 bN bv
       have bB:=At.mono bN bB
       have bH:=At.mono bN bH
       have bI:=rd1 bN bI
       refine Aa ?_
       rcases Ae bg with⟨bO,bg⟩|⟨bO,bg⟩
       ·refine Am f Z bO ?_
        refine Ac ?_
        refine Ad f Z fun a f=>Aa ?_
        refine Ap ?_
        have m:Mem W bM w H:=Mem.drop (H':=[Itm.box aa 29 [v0_0]]) m
        obtain rfl:=sj bg
        obtain rfl:=bh _ rfl
        obtain rfl:=sj a5
        obtain rfl:=a6 _ rfl
        obtain rfl:=sj hd
        exact⟨[(.bool false)],⟨f.get _ _ Z,trivial⟩,f.defers,_,[],(gt ae (gt ai (gt aX (gt a7 (gt bi bN))))),m,Z,Z⟩
       ·refine Ah f Z bO ?_
        refine An ?_
        refine Aj ?_
        refine Ab f Z fun a f=>Ag f Z Z As fun a f=>Ad f Z fun a f=>Aa ?_
        obtain rfl:=sj bg
        exact⟨_,Z,_,Z,_,(gt bi bN),f.k Z,m⟩
      ·refine Ah f Z bp ?_
       refine Ax Z ?_
       obtain rfl:=sj bg
       obtain rfl:=bh _ rfl
       exact⟨_,Z,_,bi,f.k Z,m⟩
     ·rintro a w ⟨_,rfl,bb,bP,f,m⟩
      have h0_0:=rd2 bP h0_0
      refine Aj ?_
      refine Ab f Z fun a f=>Ag f Z Z As fun a f=>Ad f Z fun a f=>Aa ?_
      obtain rfl:=sj a5
      exact⟨_,Z,_,Z,_,(gt a7 bP),f.k Z,m⟩
    ·refine Ah f Z a8 ?_
     refine Ax Z ?_
     have m:Mem W a3 w H:=Mem.drop (H':=[Itm.box aa 29 [v0_0]]) m
     obtain rfl:=sj a5
     obtain rfl:=a6 _ rfl
     exact⟨_,Z,_,a7,f.weak trivial,m⟩
   ·rintro a w ⟨_,rfl,a0,bQ,f,m⟩
    refine Ac ?_
    refine Ad f Z fun a f=>Aa ?_
    refine Ap ?_
    obtain rfl:=sj hd
    exact⟨[(.bool true)],⟨f.get _ _ Z,trivial⟩,f.defers,_,[],(gt ae (gt ai (gt aX bQ))),m,Z,Z⟩
theorem Wk.F {W w:World}{G:GH}{H:List Itm}{v0_0:Value}{x0_0:(List (List Int))}(m:Mem W G w (H))(h0_0:RSl (RSl (RI .i64)) G v0_0 x0_0){y:Bool}(hd:D.F x0_0=some y):
  Calls Tryz.prog 40 #[(.agg #[v0_0])] w (Res W G H (fun _ Ho v=>Ho=[]∧v=(.bool y))):=by
 refine Ar (args:=[(.agg #[v0_0])]) (N:=10) [.tmp 2] Tryz.func40 Z Z (Nat.le_of_ble_eq_true Z) Z fun a f=> ?_
 unfold D.F at hd
 refine Ac ?_
 refine Bn (cs:=[v0_0]) m f Z Z Z fun aa w a m f=>Ad f Z fun a f=>Aa (Ac ?_)
 refine AA 0 0 (ds:=[v0_0]) m AW f Z Z Z Z Z fun a f=> ?_
 obtain⟨ab,ac,hd⟩:=bind_some hd
 refine AY f Z Tryz.call48 (Wk.u m h0_0 ac) fun ad w ae m a f=> ?_
 have h0_0:=rd2 ae h0_0
 refine Ab f Z fun a f=> ?_
 obtain⟨af,ag,hd⟩:=bind_some hd
 refine Bw 4 (fun a w=>∃ah,GLe ad ah∧Mem W ah w (Itm.box aa 29 [v0_0]::H)∧Fr a 10 [(0,(.agg #[v0_0])),(1,(.pointer (some ⟨aa,0,none⟩))),(3,(.agg #[v0_0])),(4,(.bool ab)),(5,(.bool ab)),(9,(.bool af))]) ?_ ?_
 ·rcases Ae ag with⟨ai,ag⟩|⟨ai,ag⟩
  ·refine Av f ai ?_
   refine AA 0 0 (ds:=[v0_0]) m AW f Z Z Z Z Z fun a f=>Av f ai ?_
   obtain⟨aj,ak,ag⟩:=bind_some ag
   refine AY f Z Tryz.call42 (Wk.a m h0_0 ak) fun al w am m a f=> ?_
   have h0_0:=rd2 am h0_0
   refine Av f ai ?_
   refine Ag f Z Z Cm fun a f=>l_o f (AN (f.eval Z) ai (f.eval Z)) fun a f=> ?_
   obtain rfl:=sj ag
   exact⟨_,am,m,f.k Z⟩
  ·refine Aw f ai fun a f=> ?_
   refine Aw f ai fun a f=>Aw f ai fun a f=>l_o f (AO (f.eval Z) ai (f.eval Z)) fun a f=> ?_
   obtain rfl:=sj ag
   exact⟨_,gr,m,f.k Z⟩
 ·rintro a w ⟨ah,an,m,f⟩
  have h0_0:=rd2 an h0_0
  refine Ad f Z fun a f=>Aa ?_
  refine Ap ?_
  have m:Mem W ah w H:=Mem.drop (H':=[Itm.box aa 29 [v0_0]]) m
  obtain rfl:=sj hd
  exact⟨[(.bool af)],⟨f.get _ _ Z,trivial⟩,f.defers,_,[],(gt ae an),m,Z,Z⟩
theorem Wk.n1 {W w:World}{G:GH}{H:List Itm}{v0_0:Value}{v1:Value}{x0_0:(List (List Int))}{x1:(List Int)}(m:Mem W G w (H))(h0_0:RSl (RSl (RI .i64)) G v0_0 x0_0)(h1:RSl (RI .i64) G v1 x1){y:((List Bool))}(hd:D.n1 x0_0 x1=some y):
  Calls Tryz.prog 82 #[(.agg #[v0_0]),v1] w (Res W G H (fun G' Ho v=>∃r0:Value,∃i0:Itm,Ho=[i0]∧r0=v∧Ow RB 4 G' i0 r0 y)):=by
 refine Ar (args:=[(.agg #[v0_0]),v1]) (N:=23) [.tmp 4] Tryz.func82 Z Z (Nat.le_of_ble_eq_true Z) Z fun a f=> ?_
 unfold D.n1 at hd
 refine Ac ?_
 refine Bn (cs:=[v0_0]) m f Z Z Z fun aa w a m f=>Ad f Z fun a f=>Aa (Ac ?_)
 refine AA 0 0 (ds:=[v0_0]) m AW f Z Z Z Z Z fun a f=> ?_
 obtain⟨ab,ac,hd⟩:=bind_some hd
 refine AY f Z Tryz.call42 (Wk.a m h0_0 ac) fun ad w ae m a f=> ?_
 have h0_0:=rd2 ae h0_0
 have h1:=rd1 ae h1
 obtain⟨af,ag,hd⟩:=bind_some hd
 refine CT (R:=RB) m T71 Z (by decide) Z f Z Z Z ag fun ah ai w a m aj f=>Ad f Z fun a f=>Aa (Af (Ac ?_))
 refine Ad f Z fun a f=>Aa ?_
 obtain⟨ak,al,hd⟩:=bind_some hd
 refine AE (fun a w=>∃am:List Bool,am=ak∧∃(an:GH) (ao:Itm),GLe ad an∧Fr a 23 [(5,ai)]∧Mem W an w (ao::H)∧Ow RB 4 an ao ai am) ?_ ?_
 ·refine Ai ?_
  have m:=m.eraseAt 1
  refine AB (fun ap a w=>∃aq:List Bool,∃ar:Int,(aq,ar)=ap∧∃(au:GH) (av:Itm),GLe ad au∧Fr a 23 [(1,v1),(5,ai),(6,(.int .i64 ar))]∧Mem W au w (av::H)∧Ow RB 4 au av ai aq) al ⟨_,_,Z,_,ah,gr,f.k Z,m,aj⟩ ?_
  clear al f m
  rintro ap aw ax ay a w ⟨aq,ar,rfl,au,av,az,f,m,aA⟩
  have h1:=rd1 az h1
  refine Af (Ac ?_)
  refine Ab f Z fun a f=>Ab f Z fun a f=>AX Tryz.underlying31 f Z Z h1 fun a f=>Ag f Z Z AD fun a f=>Aa ?_
  rcases Ae ax with⟨aB,ax⟩|⟨aB,ax⟩
  ·refine Am f Z aB ?_
   refine An ?_
   refine Af (Ai (Aj ?_))
   refine Ab f Z fun a f=>Ab f Z fun a f=>Ab f Z fun a f=> ?_
   obtain⟨aC,aD,ax⟩:=bind_some ax
   refine Bb T31 f Z Z Z h1 aD fun aE aF a aG aH f=> ?_
   subst aH
   refine Az m Pl2 f Z Z aG fun a f=> ?_
   obtain⟨aI,aJ,ax⟩:=bind_some ax
   refine AQ 0 m aA Z T71 f Z Z Z aJ fun aK a aL f=>AC 0 m aA Z Tryz.sizeOf4 f Z Z aL aJ Z Z Z fun aM w m aN=>Aa (Aj ?_)
   refine Ab f Z fun a f=>Ag f Z Z As fun a f=>Ad f Z fun a f=>Aa ?_
   obtain rfl:=sj ax
   exact⟨_,Z,_,_,Z,_,aM,az,f.k Z,m,aN⟩
  ·refine Ah f Z aB ?_
   refine Ax Z ?_
   obtain rfl:=sj ax
   obtain rfl:=ay _ rfl
   exact⟨_,Z,_,av,az,f.k Z,m,aA⟩
 ·rintro a w ⟨am,rfl,an,ao,aO,f,m,aP⟩
  refine Ac ?_
  refine Ab f Z fun a f=>Ad f Z fun a f=>Aa ?_
  refine Ap ?_
  obtain rfl:=sj hd
  exact⟨[ai],⟨f.get _ _ Z,trivial⟩,f.defers,_,[ao],(gt ae aO),m,_,_,Z,Z,aP⟩
theorem Wk.W {W w:World}{G:GH}{H:List Itm}{v0_0:Value}{x0_0:(List (List Int))}(m:Mem W G w (H))(h0_0:RSl (RSl (RI .i64)) G v0_0 x0_0){y:((List Int))}(hd:D.W x0_0=some y):
  Calls Tryz.prog 41 #[(.agg #[v0_0])] w (Res W G H (fun G' Ho v=>∃r0:Value,∃i0:Itm,Ho=[i0]∧r0=v∧Ow (RI .i64) 2 G' i0 r0 y)):=by
 refine Ar (args:=[(.agg #[v0_0])]) (N:=26) [.tmp 2] Tryz.func41 Z Z (Nat.le_of_ble_eq_true Z) Z fun a f=> ?_
 unfold D.W at hd
 refine Ac ?_
 refine Bn (cs:=[v0_0]) m f Z Z Z fun aa w a m f=>Ad f Z fun a f=>Aa (Ac ?_)
 refine Ad f Z fun a f=>Aa (Af (Ac ?_))
 refine Ad f Z fun a f=>Aa ?_
 obtain⟨ab,ac,hd⟩:=bind_some hd
 refine AE (fun a w=>∃ad:Int,ad=ab∧∃(ae:GH),GLe G ae∧Fr a 26 [(3,(.int .i64 ad))]∧Mem W ae w (H)) ?_ ?_
 ·refine Ai ?_
  refine AB (fun af a w=>∃ag:Int,∃ah:Int,(ag,ah)=af∧∃(ai:GH),GLe G ai∧Fr a 26 [(1,(.pointer (some ⟨aa,0,none⟩))),(3,(.int .i64 ag)),(4,(.int .i64 ah))]∧Mem W ai w (Itm.box aa 29 [v0_0]::H)) ac ⟨_,_,Z,_,gr,f.k Z,m⟩ ?_
  clear ac f m
  rintro af aj ak al a w ⟨ag,ah,rfl,ai,am,f,m⟩
  have h0_0:=rd2 am h0_0
  refine Af (Ac ?_)
  refine Ab f Z fun a f=>AA 0 0 (ds:=[v0_0]) m AW f Z Z Z Z Z fun a f=> ?_
  obtain⟨an,ao,ak⟩:=bind_some ak
  refine AY f Z Tryz.call42 (Wk.a m h0_0 ao) fun ap w aq m a f=> ?_
  have h0_0:=rd2 aq h0_0
  refine Ag f Z Z AD fun a f=>Aa ?_
  rcases Ae ak with⟨ar,ak⟩|⟨ar,ak⟩
  ·refine Am f Z ar ?_
   refine An ?_
   refine Af (Ai (Aj ?_))
   refine Ab f Z fun a f=>Ag f Z Z Dj fun a f=>Ad f Z fun a f=>Aa (Aj ?_)
   refine Ab f Z fun a f=>Ag f Z Z As fun a f=>Ad f Z fun a f=>Aa ?_
   obtain rfl:=sj ak
   exact⟨_,Z,_,_,Z,_,(gt am aq),f.k Z,m⟩
  ·refine Ah f Z ar ?_
   refine Ax Z ?_
   have m:Mem W ap w H:=Mem.drop (H':=[Itm.box aa 29 [v0_0]]) m
   obtain rfl:=sj ak
   obtain rfl:=al _ rfl
   exact⟨_,Z,_,(gt am aq),f.k Z,m⟩
 ·rintro a w ⟨ad,rfl,ae,au,f,m⟩
  refine Ac ?_
  refine Ab f Z fun a f=> ?_
  obtain⟨av,aw,hd⟩:=bind_some hd
  refine CT (R:=(RI .i64)) m T31 Z (by decide) Z f Z Z Z aw fun ax ay w a m az f=>Ad f Z fun a f=>Aa (Af (Ac ?_))
  refine Ad f Z fun a f=>Aa ?_
  obtain⟨aA,aB,hd⟩:=bind_some hd
  refine AE (fun a w=>∃aC:List Int,aC=aA∧∃(aD:GH) (aE:Itm),GLe ae aD∧Fr a 26 [(5,ay)]∧Mem W aD w (aE::H)∧Ow (RI .i64) 2 aD aE ay aC) ?_ ?_
  ·refine Ai ?_
   refine AB (fun aF a w=>∃aG:List Int,∃aH:Int,(aG,aH)=aF∧∃(aI:GH) (aJ:Itm),GLe ae aI∧Fr a 26 [(3,(.int .i64 ad)),(5,ay),(6,(.int .i64 aH))]∧Mem W aI w (aJ::H)∧Ow (RI .i64) 2 aI aJ ay aG) aB ⟨_,_,Z,_,ax,gr,f.k Z,m,az⟩ ?_
   clear aB f m
   rintro aF aK aL aM a w ⟨aG,aH,rfl,aI,aJ,aN,f,m,aO⟩
   refine Af (Ac ?_)
   refine Ab f Z fun a f=>Ab f Z fun a f=>Ag f Z Z AD fun a f=>Aa ?_
   rcases Ae aL with⟨aP,aL⟩|⟨aP,aL⟩
   ·refine Am f Z aP ?_
    refine An ?_
    refine Af (Ai (Aj ?_))
    refine Ab f Z fun a f=>Ab f Z fun a f=> ?_
    obtain⟨aQ,aR,aL⟩:=bind_some aL
    refine AQ 0 m aO Z T31 f Z Z Z aR fun aS a aT f=>AC 0 m aO Z Tryz.sizeOf2 f Z Z aT aR Z Z Z fun aU w m aV=>Aa (Aj ?_)
    refine Ab f Z fun a f=>Ag f Z Z As fun a f=>Ad f Z fun a f=>Aa ?_
    obtain rfl:=sj aL
    exact⟨_,Z,_,_,Z,_,aU,aN,f.k Z,m,aV⟩
   ·refine Ah f Z aP ?_
    refine Ax Z ?_
    obtain rfl:=sj aL
    obtain rfl:=aM _ rfl
    exact⟨_,Z,_,aJ,aN,f.k Z,m,aO⟩
  ·rintro a w ⟨aC,rfl,aD,aE,aW,f,m,aX⟩
   refine Ac ?_
   refine Ab f Z fun a f=>Ad f Z fun a f=>Aa ?_
   refine Ap ?_
   obtain rfl:=sj hd
   exact⟨[ay],⟨f.get _ _ Z,trivial⟩,f.defers,_,[aE],(gt au aW),m,_,_,Z,Z,aX⟩
theorem Wk.B {W w:World}{G:GH}{H:List Itm}{x0:Bool}(m:Mem W G w (H)){y:Int}(hd:D.B x0=some y):
  Calls Tryz.prog 114 #[(.bool x0)] w (Res W G H (fun _ Ho v=>Ho=[]∧v=(.int .i64 y))):=by
 refine Ar (args:=[(.bool x0)]) (N:=4) [.tmp 2] Tryz.func114 Z Z (Nat.le_of_ble_eq_true Z) Z fun a f=> ?_
 unfold D.B at hd
 refine Ac ?_
 refine Ad f Z fun a f=>Aa (Af (Ac ?_))
 refine Ab f Z fun a f=>Aa ?_
 rcases Ae hd with⟨aa,hd⟩|⟨aa,hd⟩
 ·refine Am f Z aa ?_
  refine Ac ?_
  refine Ad f Z fun a f=>Aa ?_
  refine Ap ?_
  obtain rfl:=sj hd
  exact⟨[(.int .i64 1)],⟨f.get _ _ Z,trivial⟩,f.defers,_,[],gr,m,Z,Z⟩
 ·refine Ah f Z aa ?_
  refine An ?_
  refine Ac ?_
  refine Ad f Z fun a f=>Aa ?_
  refine Ap ?_
  obtain rfl:=sj hd
  exact⟨[(.int .i64 0)],⟨f.get _ _ Z,trivial⟩,f.defers,_,[],gr,m,Z,Z⟩
theorem Wk.t0 {W w:World}{G:GH}{H:List Itm}{v0:Value}{x0:(List Bool)}(m:Mem W G w (H))(h0:RSl RB G v0 x0){y:Int}(hd:D.t0 x0=some y):
  Calls Tryz.prog 83 #[v0] w (Res W G H (fun _ Ho v=>Ho=[]∧v=(.int .i64 y))):=by
 refine Ar (args:=[v0]) (N:=21) [.tmp 2] Tryz.func83 Z Z (Nat.le_of_ble_eq_true Z) Z fun a f=> ?_
 unfold D.t0 at hd
 refine Ac ?_
 refine Ad f Z fun a f=>Aa (Ac ?_)
 refine Ad f Z fun a f=>Aa (Af (Ac ?_))
 refine Ab f Z fun a f=>AX Tryz.underlying71 f Z Z h0 fun a f=>Ag f Z Z A3 fun a f=>Ad f Z fun a f=>Aa ?_
 obtain⟨aa,ab,hd⟩:=bind_some hd
 refine AE (fun a w=>∃ac:Int,ac=aa∧∃(ad:GH),GLe G ad∧Fr a 21 [(3,(.int .i64 ac))]∧Mem W ad w (H)) ?_ ?_
 ·refine Ai ?_
  refine AB (fun ae a w=>∃af:Int,∃ag:Int,(af,ag)=ae∧∃(ah:GH),GLe G ah∧Fr a 21 [(0,v0),(3,(.int .i64 af)),(4,(.int .i64 ag))]∧Mem W ah w (H)) ab ⟨_,_,Z,_,gr,f.k Z,m⟩ ?_
  clear ab f m
  rintro ae ai aj ak a w ⟨af,ag,rfl,ah,al,f,m⟩
  have h0:=RSl.mono RB.mono _ _ _ _ al h0
  refine Af (Ac ?_)
  refine Ab f Z fun a f=>Ag f Z Z Ck fun a f=>Aa ?_
  rcases Ae aj with⟨am,aj⟩|⟨am,aj⟩
  ·refine Am f Z am ?_
   refine An ?_
   refine Af (Ai (Aj ?_))
   refine Ab f Z fun a f=>Ag f Z Z Dj fun a f=>Ab f Z fun a f=>Ab f Z fun a f=> ?_
   obtain⟨an,ao,aj⟩:=bind_some aj
   refine Bb T71 f Z Z Z h0 ao fun ap aq a ar au f=> ?_
   subst au
   refine Az m Pl4 f Z Z ar fun a f=> ?_
   obtain⟨av,aw,aj⟩:=bind_some aj
   refine AY f Z Tryz.call114 (Wk.B m aw) fun ax w ay m a f=> ?_
   have h0:=RSl.mono RB.mono _ _ _ _ ay h0
   have ar:=At.mono ay ar
   refine Ag f Z Z As fun a f=>Ad f Z fun a f=>Aa (Aj ?_)
   refine Ab f Z fun a f=>Ag f Z Z A3 fun a f=>Ad f Z fun a f=>Aa ?_
   obtain rfl:=sj aj
   exact⟨_,Z,_,_,Z,_,(gt al ay),f.k Z,m⟩
  ·refine Ah f Z am ?_
   refine Ax Z ?_
   obtain rfl:=sj aj
   obtain rfl:=ak _ rfl
   exact⟨_,Z,_,al,f.k Z,m⟩
 ·rintro a w ⟨ac,rfl,ad,az,f,m⟩
  refine Ac ?_
  refine Ab f Z fun a f=>Ad f Z fun a f=>Aa ?_
  refine Ap ?_
  obtain rfl:=sj hd
  exact⟨[(.int .i64 ac)],⟨f.get _ _ Z,trivial⟩,f.defers,_,[],az,m,Z,Z⟩
theorem Wk.X0 {W w:World}{G:GH}{H:List Itm}{v0:Value}{it0:Itm}{x0:(List Int)}{x1:Int}(m:Mem W G w (it0::H))(o0:Ow (RI .i64) 2 G it0 v0 x0){y:((List Int))}(hd:D.X0 x0 x1=some y):
  Calls Tryz.prog 85 #[v0,(.int .i64 x1)] w (Res W G H (fun G' Ho v=>∃r0:Value,∃i0:Itm,Ho=[i0]∧r0=v∧Ow (RI .i64) 2 G' i0 r0 y)):=by
 refine Ar (args:=[v0,(.int .i64 x1)]) (N:=46) [.tmp 4] Tryz.func85 Z Z (Nat.le_of_ble_eq_true Z) Z fun a f=> ?_
 unfold D.X0 at hd
 refine Ac ?_
 refine Ad f Z fun a f=>Aa (Ac ?_)
 refine Ad f Z fun a f=>Aa (Af ?_)
 obtain⟨aa,ab,hd⟩:=bind_some hd
 refine AE (fun a w=>∃ac:Int,ac=aa∧∃(ad:GH),GLe G ad∧Fr a 46 [(0,v0),(1,(.int .i64 x1)),(5,(.int .i64 ac))]∧Mem W ad w (it0::H)) ?_ ?_
 ·refine Ai ?_
  refine AB (fun ae a w=>∃af:Int,af=ae∧∃(ag:GH),GLe G ag∧Fr a 46 [(0,v0),(1,(.int .i64 x1)),(5,(.int .i64 af))]∧Mem W ag w (it0::H)) ab ⟨_,Z,_,gr,f.k Z,m⟩ ?_
  clear ab f m
  rintro ae ah ai aj a w ⟨af,rfl,ag,ak,f,m⟩
  have o0:=od1 ak o0
  refine Af (Ac ?_)
  refine Ab f Z fun a f=>Ab f Z fun a f=>Bl 0 m o0 Z Tryz.underlying31 f Z Z fun a f=>Ag f Z Z AD fun a f=>Ab f Z fun a f=> ?_
  obtain⟨al,am,ai⟩:=bind_some ai
  refine Bw 7 (fun a w=>∃an,GLe ag an∧Mem W an w (it0::H)∧Fr a 46 [(0,v0),(1,(.int .i64 x1)),(5,(.int .i64 af)),(7,(.int .i64 af)),(8,v0),(9,(.int .i64 (x0.length:Int))),(10,(.bool (decide (af<(x0.length:Int))))),(11,(.bool (decide (af<(x0.length:Int))))),(18,(.bool al))]) ?_ ?_
  ·rcases Ae am with⟨ao,am⟩|⟨ao,am⟩
   ·refine Av f ao ?_
    refine Ab f Z fun a f=>Av f ao ?_
    refine Ab f Z fun a f=>Av f ao ?_
    obtain⟨ap,aq,am⟩:=bind_some am
    refine AQ 0 m o0 Z T31 f Z Z Z aq fun ar a au f=>Av f ao ?_
    refine Br 0 m o0 Z Pl2 f Z Z au aq fun av a aw f=> ?_
    subst aw
    refine Av f ao ?_
    refine Ab f Z fun a f=>Av f ao ?_
    refine Ag f Z Z AD fun a f=>l_o f (AN (f.eval Z) ao (f.eval Z)) fun a f=> ?_
    obtain rfl:=sj am
    exact⟨_,gr,m,f.k Z⟩
   ·refine Aw f ao fun a f=> ?_
    refine Aw f ao fun a f=>Aw f ao fun a f=>Aw f ao fun a f=>Aw f ao fun a f=>Aw f ao fun a f=>l_o f (AO (f.eval Z) ao (f.eval Z)) fun a f=> ?_
    obtain rfl:=sj am
    exact⟨_,gr,m,f.k Z⟩
  ·rintro a w ⟨an,ax,m,f⟩
   have o0:=od1 ax o0
   refine Aa ?_
   rcases Ae ai with⟨ay,ai⟩|⟨ay,ai⟩
   ·refine Am f Z ay ?_
    refine An ?_
    refine Ai (Aj ?_)
    refine Ab f Z fun a f=>Ag f Z Z As fun a f=>Ad f Z fun a f=>Aa ?_
    obtain rfl:=sj ai
    exact⟨_,Z,_,Z,_,(gt ak ax),f.k Z,m⟩
   ·refine Ah f Z ay ?_
    refine Ax Z ?_
    obtain rfl:=sj ai
    obtain rfl:=aj _ rfl
    exact⟨_,Z,_,(gt ak ax),f.k Z,m⟩
 ·rintro a w ⟨ac,rfl,ad,az,f,m⟩
  have o0:=od1 az o0
  refine Af (Ac ?_)
  refine Ab f Z fun a f=>Ab f Z fun a f=>Bl 0 m o0 Z Tryz.underlying31 f Z Z fun a f=>Ag f Z Z AD fun a f=>Ab f Z fun a f=> ?_
  obtain⟨aA,aB,hd⟩:=bind_some hd
  refine Bw 7 (fun a w=>∃aC,GLe ad aC∧Mem W aC w (it0::H)∧Fr a 46 [(0,v0),(1,(.int .i64 x1)),(5,(.int .i64 ac)),(21,(.int .i64 ac)),(22,v0),(23,(.int .i64 (x0.length:Int))),(24,(.bool (decide (ac<(x0.length:Int))))),(25,(.bool (decide (ac<(x0.length:Int))))),(32,(.bool aA))]) ?_ ?_
  ·rcases Ae aB with⟨aD,aB⟩|⟨aD,aB⟩
   ·refine Av f aD ?_
    refine Ab f Z fun a f=>Av f aD ?_
    refine Ab f Z fun a f=>Av f aD ?_
    obtain⟨aE,aF,aB⟩:=bind_some aB
    refine AQ 0 m o0 Z T31 f Z Z Z aF fun aG a aH f=>Av f aD ?_
    refine Br 0 m o0 Z Pl2 f Z Z aH aF fun aI a aJ f=> ?_
    subst aJ
    refine Av f aD ?_
    refine Ab f Z fun a f=>Av f aD ?_
    refine Ag f Z Z BG fun a f=>l_o f (AN (f.eval Z) aD (f.eval Z)) fun a f=> ?_
    obtain rfl:=sj aB
    exact⟨_,gr,m,f.k Z⟩
   ·refine Aw f aD fun a f=> ?_
    refine Aw f aD fun a f=>Aw f aD fun a f=>Aw f aD fun a f=>Aw f aD fun a f=>Aw f aD fun a f=>l_o f (AO (f.eval Z) aD (f.eval Z)) fun a f=> ?_
    obtain rfl:=sj aB
    exact⟨_,gr,m,f.k Z⟩
  ·rintro a w ⟨aC,aK,m,f⟩
   have o0:=od1 aK o0
   refine Aa ?_
   rcases Ae hd with⟨aL,hd⟩|⟨aL,hd⟩
   ·refine Am f Z aL ?_
    refine Ac ?_
    refine Ab f Z fun a f=>Ad f Z fun a f=>Aa ?_
    refine Ap ?_
    obtain rfl:=sj hd
    exact⟨[v0],⟨f.get _ _ Z,trivial⟩,f.defers,_,[it0],(gt az aK),m,_,_,Z,Z,o0⟩
   ·refine Ah f Z aL ?_
    refine An ?_
    refine Ac ?_
    refine Ab f Z fun a f=>Ab f Z fun a f=> ?_
    obtain⟨aM,aN,m,aO⟩:=Ow.stamp (RI.mono _) o0 m
    obtain⟨aP,aQ,hd⟩:=bind_some hd
    refine FI T31 f Z Z aO (.inl ⟨Z,Z⟩) (.inr ⟨_,_,Z,Z⟩) aQ fun aR a aS f=> ?_
    obtain⟨aT,aU,hd⟩:=bind_some hd
    refine AF f Z Tryz.call95 (Wk.g m aS aU) fun aV aW aX w aY m aZ a f=> ?_
    obtain⟨a0,a1,rfl,rfl,a2⟩:=aZ
    have aO:=rd1 aY aO
    have aS:=rd1 aY aS
    refine Ab f Z fun a f=>A5 (R:=(RI .i64)) (xs:=([x1]:List Int)) (RI.one _) m T31 f Z Z Z (by decide) (All2.cons Z (All2.nil _)) fun a3 a4 w a m a5 f=> ?_
    obtain⟨a6,a7,hd⟩:=bind_some hd
    refine Bj (RI.one _) 1 m a2 Z T31 Z (by decide) f Z Z Z (Ow.src (j:=0) a5 m Z) a7 fun a8 a9 w a m ba f=>Ad f Z fun a f=>Aa (Ac ?_)
    refine Ab f Z fun a f=>Ab f Z fun a f=>Ab f Z fun a f=> ?_
    obtain⟨bb,bc,hd⟩:=bind_some hd
    refine FI T31 f Z Z aO (.inr ⟨_,_,Z,Z⟩) (.inl ⟨Z,Z⟩) bc fun bd a be f=> ?_
    obtain⟨bf,bg,hd⟩:=bind_some hd
    refine Bj (RI.one _) 1 m ba Z T31 Z (by decide) f Z Z Z (be.src m) bg fun bh bi w a m bj f=>Ad f Z fun a f=>Aa ?_
    refine Ap ?_
    have m:=m.front 1 rfl
    have m:=m.eraseAt 1
    obtain rfl:=sj hd
    exact⟨[bi],⟨f.get _ _ Z,trivial⟩,f.defers,_,[bh],(gt az (gt aK (gt aN aY))),m,_,_,Z,Z,bj⟩

end Go.Proofs.YtkffjeaefgfnnaaGreatDoor

set_option maxRecDepth 100000
namespace Go.Proofs.YtkffjeaefgfnnaaGreatDoor
open Go Go.Sx
theorem Wk.E {W w:World}{G:GH}{H:List Itm}{v0_0:Value}{v1:Value}{x0_0:(List (List Int))}{x1:(List Bool)}{x2:Int}(m:Mem W G w (H))(h0_0:RSl (RSl (RI .i64)) G v0_0 x0_0)(h1:RSl RB G v1 x1){y:((List Int))}(hd:D.E x0_0 x1 x2=some y):
  Calls Tryz.prog 44 #[(.agg #[v0_0]),v1,(.int .i64 x2)] w (Res W G H (fun G' Ho v=>∃r0:Value,∃i0:Itm,Ho=[i0]∧r0=v∧Ow (RI .i64) 2 G' i0 r0 y)):=by
 refine Ar (args:=[(.agg #[v0_0]),v1,(.int .i64 x2)]) (N:=81) [.tmp 6] Tryz.func44 Z Z (Nat.le_of_ble_eq_true Z) Z fun a f=> ?_
 unfold D.E at hd
 refine Ac ?_
 refine Bn (cs:=[v0_0]) m f Z Z Z fun aa w a m f=>Ad f Z fun a f=>Aa (Ac ?_)
 refine Ab f Z fun a f=>A5 (R:=(RI .i64)) (xs:=([x2]:List Int)) (RI.one _) m T31 f Z Z Z (by decide) (All2.cons Z (All2.nil _)) fun ab ac w a m ad f=>Ad f Z fun a f=>Aa (Ac ?_)
 refine A5 (R:=(RI .i64)) (xs:=([]:List Int)) (RI.one _) m T31 f Z Z Z (by decide) (All2.nil _) fun ae af w a m ag f=>Ad f Z fun a f=>Aa (Af (Ac ?_))
 refine Ad f Z fun a f=>Aa ?_
 obtain⟨ah,ai,hd⟩:=bind_some hd
 refine AE (fun a w=>∃aj:List Int,aj=ah∧∃(ak:GH) (al:Value) (am:Itm),GLe G ak∧Fr a 81 [(8,al)]∧Mem W ak w (am::H)∧Ow (RI .i64) 2 ak am al aj) ?_ ?_
 ·refine Ai ?_
  have m:=m.front 1 rfl
  have m:=m.front 2 rfl
  refine AB (fun an a w=>∃ao:List Int,∃ap:List Int,∃aq:Int,(ao,ap,aq)=an∧∃(ar:GH) (au:Value) (av:Itm) (aw:Value) (ax:Itm),GLe G ar∧Fr a 81 [(1,v1),(2,(.int .i64 x2)),(3,(.pointer (some ⟨aa,0,none⟩))),(7,au),(8,aw),(9,(.int .i64 aq))]∧Mem W ar w (Itm.box aa 29 [v0_0]::av::ax::H)∧Ow (RI .i64) 2 ar av au ao∧Ow (RI .i64) 2 ar ax aw ap) ai ⟨_,_,_,Z,_,ac,ab,af,ae,gr,f.k Z,m,ad,ag⟩ ?_
  clear ai f m
  rintro an ay az aA a w ⟨ao,ap,aq,rfl,ar,au,av,aw,ax,aB,f,m,aC,aD⟩
  have h1:=RSl.mono RB.mono _ _ _ _ aB h1
  have h0_0:=rd2 aB h0_0
  refine Af (Ac ?_)
  refine Ab f Z fun a f=>Ab f Z fun a f=>Bl 1 m aC Z Tryz.underlying31 f Z Z fun a f=>Ag f Z Z AD fun a f=>Aa ?_
  rcases Ae az with⟨aE,az⟩|⟨aE,az⟩
  ·refine Am f Z aE ?_
   refine An ?_
   refine Af (Ai (Af ?_))
   refine A7 9 AJ (by kernel_rfl) m ?_
   refine Cg 0 9 Tryz.underlying29 Z Tryz.sizeOf27 Z f Z fun a f=>BS 1 9 0 Bk Z Z Z f Z fun a f=>Ak 2 9 Z f Z fun a f=>Ak 3 9 Z f Z fun a f=> ?_
   obtain⟨aF,aG,az⟩:=bind_some az
   refine AT 4 9 1 m aC T31 aG Z f Z Z fun aH a aI f=>Ba 5 9 1 aC Pl2 aI aG Z f Z fun aJ a aK f=> ?_
   subst aK
   obtain⟨aL,aM,az⟩:=bind_some az
   refine BZ 6 9 T27 h0_0 aM Z f Z Z fun aN aO a aP aQ f=>B2 7 9 AS aP Z f Z fun a f=>q_p 8 9 Z f (fun _=>BD (f.eval Z)) fun a f=>AV fun aR w aS m=> ?_
   have h1:=RSl.mono RB.mono _ _ _ _ aS h1
   have aQ:=rd1 aS aQ
   have h0_0:=rd2 aS h0_0
   have aP:=At.mono aS aP
   have aC:=od1 aS aC
   have aD:=od1 aS aD
   refine Aa (Ac ?_)
   refine Ad f Z fun a f=>Aa ?_
   obtain⟨aT,aU,az⟩:=bind_some az
   refine AE (fun a w=>∃aV:List Int,∃aW:List Int,(aV,aW)=aT∧∃(aX:GH) (aY:Value) (aZ:Itm) (a0:Value) (a1:Itm),GLe aR aX∧Fr a 81 [(1,v1),(2,(.int .i64 x2)),(3,(.pointer (some ⟨aa,0,none⟩))),(7,aY),(8,a0),(9,(.int .i64 aq))]∧Mem W aX w (Itm.box aa 29 [v0_0]::aZ::a1::H)∧Ow (RI .i64) 2 aX aZ aY aV∧Ow (RI .i64) 2 aX a1 a0 aW) ?_ ?_
   ·refine Ai ?_
    refine AB (fun a2 a w=>∃a3:List Int,∃a4:List Int,∃a5:Int,(a3,a4,a5)=a2∧∃(a6:GH) (a7:Value) (a8:Itm) (a9:Value) (ba:Itm),GLe aR a6∧Fr a 81 [(1,v1),(2,(.int .i64 x2)),(3,(.pointer (some ⟨aa,0,none⟩))),(7,a7),(8,a9),(9,(.int .i64 aq)),(10,aO),(11,(.int .i64 a5))]∧Mem W a6 w (Itm.box aa 29 [v0_0]::a8::ba::H)∧Ow (RI .i64) 2 a6 a8 a7 a3∧Ow (RI .i64) 2 a6 ba a9 a4) aU ⟨_,_,_,Z,_,au,av,aw,ax,gr,f.k Z,m,aC,aD⟩ ?_
    clear aU f m
    rintro a2 bb bc bd a w ⟨a3,a4,a5,rfl,a6,a7,a8,a9,ba,be,f,m,bf,bg⟩
    have h1:=RSl.mono RB.mono _ _ _ _ be h1
    have aQ:=rd1 be aQ
    have h0_0:=rd2 be h0_0
    refine Af (Ac ?_)
    refine Ab f Z fun a f=>Ab f Z fun a f=>AX Tryz.underlying31 f Z Z aQ fun a f=>Ag f Z Z AD fun a f=>Aa ?_
    rcases Ae bc with⟨bh,bc⟩|⟨bh,bc⟩
    ·refine Am f Z bh ?_
     refine An ?_
     refine Af (Ai (Af (Ac ?_)))
     refine Ab f Z fun a f=>Ab f Z fun a f=>Ab f Z fun a f=> ?_
     obtain⟨bi,bj,bc⟩:=bind_some bc
     refine Bb T31 f Z Z Z aQ bj fun bk bl a bm bn f=> ?_
     subst bn
     refine Az m Pl2 f Z Z bm fun a f=> ?_
     obtain⟨bo,bp,bc⟩:=bind_some bc
     refine Bb T71 f Z Z Z h1 bp fun bq br a bs bt f=> ?_
     subst bt
     refine Az m Pl4 f Z Z bs fun a f=>Ab f Z fun a f=> ?_
     obtain⟨bu,bv,bc⟩:=bind_some bc
     refine Bw 8 (fun a w=>∃bw,GLe a6 bw∧Mem W bw w (Itm.box aa 29 [v0_0]::a8::ba::H)∧Fr a 81 [(1,v1),(2,(.int .i64 x2)),(3,(.pointer (some ⟨aa,0,none⟩))),(7,a7),(8,a9),(9,(.int .i64 aq)),(10,aO),(11,(.int .i64 a5)),(32,(.bool (decide (a5<(aL.length:Int))))),(35,v1),(36,aO),(37,(.int .i64 a5)),(38,bk),(39,(.int .i64 bi)),(40,bq),(41,(.bool bo)),(42,(.bool bo)),(50,(.bool bu))]) ?_ ?_
     ·rcases Ae bv with⟨bx,bv⟩|⟨bx,bv⟩
      ·refine Av f bx ?_
       refine Ab f Z fun a f=>Av f bx ?_
       refine Ab f Z fun a f=>Av f bx ?_
       refine Ab f Z fun a f=>Av f bx ?_
       obtain⟨bz,bA,bv⟩:=bind_some bv
       refine Bb T31 f Z Z Z aQ bA fun bB bC a bD bE f=> ?_
       subst bE
       refine Av f bx ?_
       refine Az m Pl2 f Z Z bD fun a f=>Av f bx ?_
       obtain⟨bF,bG,bv⟩:=bind_some bv
       refine AF f Z Tryz.call84 (Ow.lendCall (RI.mono _) 1 bf m Z (fun bH bI m bJ=>Wk.f m bJ bG) (fun _ _ _ _ h=>h)) fun bK bL bM w bN m bO a f=> ?_
       obtain⟨rfl,rfl⟩:=bO
       have h1:=RSl.mono RB.mono _ _ _ _ bN h1
       have aQ:=rd1 bN aQ
       have bm:=At.mono bN bm
       have bs:=At.mono bN bs
       have bD:=At.mono bN bD
       have h0_0:=rd2 bN h0_0
       have bf:=od1 bN bf
       have bg:=od1 bN bg
       refine Av f bx ?_
       refine l_o f (Bp (f.eval Z)) fun a f=>l_o f (AN (f.eval Z) bx (f.eval Z)) fun a f=> ?_
       obtain rfl:=sj bv
       exact⟨_,bN,m,f.k Z⟩
      ·refine Aw f bx fun a f=> ?_
       refine Aw f bx fun a f=>Aw f bx fun a f=>Aw f bx fun a f=>Aw f bx fun a f=>Aw f bx fun a f=>Aw f bx fun a f=>l_o f (AO (f.eval Z) bx (f.eval Z)) fun a f=> ?_
       obtain rfl:=sj bv
       exact⟨_,gr,m,f.k Z⟩
     ·rintro a w ⟨bw,bP,m,f⟩
      have h1:=RSl.mono RB.mono _ _ _ _ bP h1
      have aQ:=rd1 bP aQ
      have bm:=At.mono bP bm
      have bs:=At.mono bP bs
      have h0_0:=rd2 bP h0_0
      have bf:=od1 bP bf
      have bg:=od1 bP bg
      refine Aa ?_
      obtain⟨bQ,bR,bc⟩:=bind_some bc
      refine AE (fun a w=>∃bS:List Int,bS=bQ∧∃(bT:GH) (bU:Value) (bV:Itm),GLe bw bT∧Fr a 81 [(1,v1),(2,(.int .i64 x2)),(3,(.pointer (some ⟨aa,0,none⟩))),(7,bU),(8,a9),(9,(.int .i64 aq)),(10,aO),(11,(.int .i64 a5))]∧Mem W bT w (Itm.box aa 29 [v0_0]::bV::ba::H)∧Ow (RI .i64) 2 bT bV bU bS) ?_ ?_
      ·rcases Ae bR with⟨bW,bR⟩|⟨bW,bR⟩
       ·refine Am f Z bW ?_
        refine Aj ?_
        refine Ab f Z fun a f=>Ab f Z fun a f=>Ab f Z fun a f=> ?_
        obtain⟨bX,bY,bR⟩:=bind_some bR
        refine Bb T31 f Z Z Z aQ bY fun bZ b0 a b1 b2 f=> ?_
        subst b2
        refine Az m Pl2 f Z Z b1 fun a f=>A5 (R:=(RI .i64)) (xs:=([bX]:List Int)) (RI.one _) m T31 f Z Z Z (by decide) (All2.cons Z (All2.nil _)) fun b3 b4 w a m b5 f=> ?_
        obtain⟨b6,b7,bR⟩:=bind_some bR
        refine Bj (RI.one _) 2 m bf Z T31 Z (by decide) f Z Z Z (Ow.src (j:=0) b5 m Z) b7 fun b8 b9 w a m ca f=>Ad f Z fun a f=>Aa ?_
        have m:=m.front 3 rfl
        have m:=m.front 3 rfl
        have m:Mem W bw w (Itm.box aa 29 [v0_0]::b8::ba::b3::H):=m.front 3 rfl
        have m:=m.eraseAt 3
        obtain rfl:=sj bR
        exact⟨_,Z,_,b9,b8,gr,f.k Z,m,ca⟩
       ·refine Ah f Z bW ?_
        refine An ?_
        obtain rfl:=sj bR
        exact⟨_,Z,_,a7,a8,gr,f.k Z,m,bf⟩
      ·rintro a w ⟨bS,rfl,bT,bU,bV,cb,f,m,cc⟩
       have h1:=RSl.mono RB.mono _ _ _ _ cb h1
       have aQ:=rd1 cb aQ
       have h0_0:=rd2 cb h0_0
       have bg:=od1 cb bg
       refine Ac ?_
       refine Ab f Z fun a f=>Ab f Z fun a f=>Ab f Z fun a f=> ?_
       obtain⟨cd,ce,bc⟩:=bind_some bc
       refine Bb T31 f Z Z Z aQ ce fun cf cg a ch ci f=> ?_
       subst ci
       refine Az m Pl2 f Z Z ch fun a f=> ?_
       obtain⟨cj,ck,bc⟩:=bind_some bc
       refine Bb T71 f Z Z Z h1 ck fun cl cm a cn co f=> ?_
       subst co
       refine Az m Pl4 f Z Z cn fun a f=>l_o f (Bp (f.eval Z)) fun a f=>Ab f Z fun a f=> ?_
       obtain⟨cp,cq,bc⟩:=bind_some bc
       refine Bw 7 (fun a w=>∃cr,GLe bT cr∧Mem W cr w (Itm.box aa 29 [v0_0]::bV::ba::H)∧Fr a 81 [(1,v1),(2,(.int .i64 x2)),(3,(.pointer (some ⟨aa,0,none⟩))),(7,bU),(8,a9),(9,(.int .i64 aq)),(10,aO),(11,(.int .i64 a5)),(58,v1),(59,aO),(60,(.int .i64 a5)),(61,cf),(62,(.int .i64 cd)),(63,cl),(64,(.bool cj)),(65,(.bool (!cj))),(66,(.bool (!cj))),(73,(.bool cp))]) ?_ ?_
       ·rcases Ae cq with⟨ct,cq⟩|⟨ct,cq⟩
        ·refine Av f ct ?_
         refine Ab f Z fun a f=>Av f ct ?_
         refine Ab f Z fun a f=>Av f ct ?_
         obtain⟨cu,cv,cq⟩:=bind_some cq
         refine Bb T31 f Z Z Z aQ cv fun cw cx a cy cz f=> ?_
         subst cz
         refine Av f ct ?_
         refine Az m Pl2 f Z Z cy fun a f=>Av f ct ?_
         refine Ab f Z fun a f=>Av f ct ?_
         refine Ag f Z Z CS fun a f=>l_o f (AN (f.eval Z) ct (f.eval Z)) fun a f=> ?_
         obtain rfl:=sj cq
         exact⟨_,gr,m,f.k Z⟩
        ·refine Aw f ct fun a f=> ?_
         refine Aw f ct fun a f=>Aw f ct fun a f=>Aw f ct fun a f=>Aw f ct fun a f=>Aw f ct fun a f=>l_o f (AO (f.eval Z) ct (f.eval Z)) fun a f=> ?_
         obtain rfl:=sj cq
         exact⟨_,gr,m,f.k Z⟩
       ·rintro a w ⟨cr,cA,m,f⟩
        have h1:=RSl.mono RB.mono _ _ _ _ cA h1
        have aQ:=rd1 cA aQ
        have ch:=At.mono cA ch
        have cn:=At.mono cA cn
        have h0_0:=rd2 cA h0_0
        have cc:=od1 cA cc
        have bg:=od1 cA bg
        refine Aa ?_
        rcases Ae bc with⟨cB,bc⟩|⟨cB,bc⟩
        ·refine Am f Z cB ?_
         refine Aj ?_
         refine Ab f Z fun a f=>Ab f Z fun a f=>Ab f Z fun a f=> ?_
         obtain⟨cC,cD,bc⟩:=bind_some bc
         refine Bb T31 f Z Z Z aQ cD fun cE cF a cG cH f=> ?_
         subst cH
         refine Az m Pl2 f Z Z cG fun a f=> ?_
         have m:=m.front 2 rfl
         obtain⟨cI,cJ,bc⟩:=bind_some bc
         refine AF f Z Tryz.call85 (Wk.X0 m bg cJ) fun cK cL cM w cN m cO a f=> ?_
         obtain⟨cP,cQ,rfl,rfl,cR⟩:=cO
         have h1:=RSl.mono RB.mono _ _ _ _ cN h1
         have aQ:=rd1 cN aQ
         have cG:=At.mono cN cG
         have h0_0:=rd2 cN h0_0
         have cc:=od1 cN cc
         refine Ad f Z fun a f=>Aa (Aj ?_)
         refine Ab f Z fun a f=>Ag f Z Z As fun a f=>Ad f Z fun a f=>Aa ?_
         have m:=m.front 2 rfl
         have m:=m.front 2 rfl
         obtain rfl:=sj bc
         exact⟨_,Z,_,_,_,Z,_,bU,bV,cP,cQ,(gt be (gt bP (gt cb (gt cA cN)))),f.k Z,m,cc,cR⟩
        ·refine Ah f Z cB ?_
         refine An ?_
         refine Aj ?_
         refine Ab f Z fun a f=>Ag f Z Z As fun a f=>Ad f Z fun a f=>Aa ?_
         obtain rfl:=sj bc
         exact⟨_,Z,_,_,_,Z,_,bU,bV,a9,ba,(gt be (gt bP (gt cb cA))),f.k Z,m,cc,bg⟩
    ·refine Ah f Z bh ?_
     refine Ax Z ?_
     obtain rfl:=sj bc
     obtain rfl:=bd _ rfl
     exact⟨_,_,Z,_,a7,a8,a9,ba,be,f.k Z,m,bf,bg⟩
   ·rintro a w ⟨aV,aW,rfl,aX,aY,aZ,a0,a1,cS,f,m,cT,cU⟩
    have h1:=RSl.mono RB.mono _ _ _ _ cS h1
    have h0_0:=rd2 cS h0_0
    refine Aj ?_
    refine Ab f Z fun a f=>Ag f Z Z As fun a f=>Ad f Z fun a f=>Aa ?_
    obtain rfl:=sj az
    exact⟨_,Z,_,_,_,Z,_,aY,aZ,a0,a1,(gt aB (gt aS cS)),f.k Z,m,cT,cU⟩
  ·refine Ah f Z aE ?_
   refine Ax Z ?_
   have m:=m.front 2 rfl
   have m:=m.eraseAt 2
   have m:=m.eraseAt 1
   obtain rfl:=sj az
   obtain rfl:=aA _ rfl
   exact⟨_,Z,_,aw,ax,aB,f.k Z,m,aD⟩
 ·rintro a w ⟨aj,rfl,ak,al,am,cV,f,m,cW⟩
  refine Ac ?_
  refine Ab f Z fun a f=>Ad f Z fun a f=>Aa ?_
  refine Ap ?_
  obtain rfl:=sj hd
  exact⟨[al],⟨f.get _ _ Z,trivial⟩,f.defers,_,[am],cV,m,_,_,Z,Z,cW⟩
theorem Wk.m {W w:World}{G:GH}{H:List Itm}{x0:Int}{x1:Int}(m:Mem W G w (H)){y:Int}(hd:D.m x0 x1=some y):
  Calls Tryz.prog 47 #[(.int .i64 x0),(.int .i64 x1)] w (Res W G H (fun _ Ho v=>Ho=[]∧v=(.int .i64 y))):=by
 refine Ar (args:=[(.int .i64 x0),(.int .i64 x1)]) (N:=10) [.tmp 4] Tryz.func47 Z Z (Nat.le_of_ble_eq_true Z) Z fun a f=> ?_
 unfold D.m at hd
 refine Ac ?_
 refine Ad f Z fun a f=>Aa (Af (Ac ?_))
 refine Ab f Z fun a f=>Ab f Z fun a f=>Ag f Z Z Cc fun a f=>Aa ?_
 rcases Ae hd with⟨aa,hd⟩|⟨aa,hd⟩
 ·refine Am f Z aa ?_
  refine Ac ?_
  refine Ab f Z fun a f=>Ad f Z fun a f=>Aa ?_
  refine Ap ?_
  obtain rfl:=sj hd
  exact⟨[(.int .i64 x0)],⟨f.get _ _ Z,trivial⟩,f.defers,_,[],gr,m,Z,Z⟩
 ·refine Ah f Z aa ?_
  refine An ?_
  refine Ac ?_
  refine Ab f Z fun a f=>Ad f Z fun a f=>Aa ?_
  refine Ap ?_
  obtain rfl:=sj hd
  exact⟨[(.int .i64 x1)],⟨f.get _ _ Z,trivial⟩,f.defers,_,[],gr,m,Z,Z⟩

end Go.Proofs.YtkffjeaefgfnnaaGreatDoor
