/- Parts of the proof: QDW, SxMp, QHandW, QHandO. -/
import Derived.Test.YtkffjeaefgfnnaaGreatDoorBd3
import Derived.Test.YtkffjeaefgfnnaaGreatDoorProg
import Derived.KernelRfl
set_option linter.unusedVariables false
set_option linter.unusedSimpArgs false
set_option linter.unusedSectionVars false
set_option maxRecDepth 100000
namespace Go.Proofs.YtkffjeaefgfnnaaGreatDoor
open Go Go.Sx
theorem T61 :SlT Tryz.prog 61 65 1 4 (.int .u32 0):=⟨Tryz.underlying61,Tryz.t65,by kernel_rfl,by kernel_rfl,by kernel_rfl,by kernel_rfl⟩
theorem T67 :SlT Tryz.prog 67 3 1 8 (.int .i64 0):=⟨Tryz.underlying67,Tryz.t3,by kernel_rfl,by kernel_rfl,by kernel_rfl,by kernel_rfl⟩
theorem DB :B9 Tryz.prog 65:=Tryz.isAgg65
theorem Pl3 :B9 Tryz.prog 3:=Tryz.isAgg3
theorem Wk.N0 {W w:World}{G:GH}{H:List Itm}{v0_0:Value}{v1_0:Value}{v1_1:Value}{x0_0:(List (List Int))}{x1_0:(List (List Int))}{x1_1:(List (List Int))}(m:Mem W G w (H))(h0_0:RSl (RSl (RI .i64)) G v0_0 x0_0)(h1_0:RSl (RSl (RI .i64)) G v1_0 x1_0)(h1_1:RSl (RSl (RI .i64)) G v1_1 x1_1){y:Bool}(hd:D.N0 x0_0 x1_0 x1_1=some y):
  Calls Tryz.prog 16 #[(.agg #[v0_0]),(.agg #[v1_0,v1_1])] w (Res W G H (fun _ Ho v=>Ho=[]∧v=(.bool y))):=by
 refine Aq (args:=[(.agg #[v0_0]),(.agg #[v1_0,v1_1])]) (N:=69) [.tmp 4] Tryz.func16 Z Z (Nat.le_of_ble_eq_true Z) Z fun a f=> ?_
 unfold D.N0 at hd
 refine Ac ?_
 refine Bm (cs:=[v0_0]) m f Z Z Z fun aa w a m f=>Bm (cs:=[v1_0,v1_1]) m f Z Z Z fun ab w a m f=>Ad f Z fun a f=>Aa (Af (Ac ?_))
 refine AE 1 0 (ds:=[v0_0]) m Bo f Z Z Z Z Z fun a f=> ?_
 obtain⟨ac,ad,hd⟩:=bind_some hd
 refine Bc f Z Tryz.call48 (Wk.G m h0_0 ad) fun ae w af m a f=> ?_
 have h0_0:=rd2 af h0_0
 have h1_0:=rd2 af h1_0
 have h1_1:=rd2 af h1_1
 refine l_o f (Bs (f.eval Z)) fun a f=>Ab f Z fun a f=> ?_
 obtain⟨ag,ah,hd⟩:=bind_some hd
 refine BA 4 (fun a w=>∃ai,GLe ae ai∧Mem W ai w (Itm.box ab 36 [v1_0,v1_1]::Itm.box aa 29 [v0_0]::H)∧Fr a 69 [(0,(.agg #[v0_0])),(1,(.agg #[v1_0,v1_1])),(2,(.pointer (some ⟨aa,0,none⟩))),(3,(.pointer (some ⟨ab,0,none⟩))),(10,(.agg #[v0_0])),(11,(.bool ac)),(12,(.bool (!ac))),(13,(.bool (!ac))),(17,(.bool ag))]) ?_ ?_
 ·rcases Ae ah with⟨aj,ah⟩|⟨aj,ah⟩
  ·refine AB f aj fun a f=> ?_
   refine AB f aj fun a f=>AB f aj fun a f=>l_o f (A3 (f.eval Z) aj (f.eval Z)) fun a f=> ?_
   obtain rfl:=sj ah
   exact⟨_,gr,m,f.k Z⟩
  ·refine Az f aj ?_
   refine AE 0 0 (ds:=[v1_0,v1_1]) m BG f Z Z Z Z Z fun a f=>Az f aj ?_
   obtain⟨ak,al,ah⟩:=bind_some ah
   refine Bc f Z Tryz.call49 (Wk.j1 m h1_0 h1_1 al) fun am w an m a f=> ?_
   have h0_0:=rd2 an h0_0
   have h1_0:=rd2 an h1_0
   have h1_1:=rd2 an h1_1
   refine Az f aj ?_
   refine l_o f (Bs (f.eval Z)) fun a f=>l_o f (A2 (f.eval Z) aj (f.eval Z)) fun a f=> ?_
   obtain rfl:=sj ah
   exact⟨_,an,m,f.k Z⟩
 ·rintro a w ⟨ai,ao,m,f⟩
  have h0_0:=rd2 ao h0_0
  have h1_0:=rd2 ao h1_0
  have h1_1:=rd2 ao h1_1
  refine Aa ?_
  rcases Ae hd with⟨ap,hd⟩|⟨ap,hd⟩
  ·refine Ak f Z ap ?_
   refine Ac ?_
   refine Ad f Z fun a f=>Aa ?_
   refine Ao ?_
   have m:Mem W ai w H:=Mem.drop (H':=[Itm.box ab 36 [v1_0,v1_1],Itm.box aa 29 [v0_0]]) m
   obtain rfl:=sj hd
   exact⟨[(.bool false)],⟨f.get _ _ Z,trivial⟩,f.defers,_,[],(gt af ao),m,Z,Z⟩
  ·refine Ag f Z ap ?_
   refine Al ?_
   refine Af (Ac ?_)
   refine Ad f Z fun a f=>Aa ?_
   obtain⟨aq,ar,hd⟩:=bind_some hd
   refine AF (fun a w=>∃q_73':Unit,aq= .inl q_73'∧∃(au:GH),GLe ai au∧Fr a 69 [(2,(.pointer (some ⟨aa,0,none⟩))),(3,(.pointer (some ⟨ab,0,none⟩)))]∧Mem W au w (Itm.box aa 29 [v0_0]::Itm.box ab 36 [v1_0,v1_1]::H)) ?_ ?_
   ·refine Aj ?_
    have m:=m.front 1 rfl
    refine AC (fun av a w=>∃aw:Int,aw=av∧∃(ax:GH),GLe ai ax∧Fr a 69 [(2,(.pointer (some ⟨aa,0,none⟩))),(3,(.pointer (some ⟨ab,0,none⟩))),(5,(.int .i64 aw))]∧Mem W ax w (Itm.box aa 29 [v0_0]::Itm.box ab 36 [v1_0,v1_1]::H)) ar ⟨_,Z,_,gr,f.k Z,m⟩ ?_
    clear ar f m
    rintro av ay az aA a w ⟨aw,rfl,ax,aB,f,m⟩
    have h0_0:=rd2 aB h0_0
    have h1_0:=rd2 aB h1_0
    have h1_1:=rd2 aB h1_1
    refine Af (Ac ?_)
    refine Ab f Z fun a f=>Bk Tryz.underlying36 Z Tryz.sizeOf27 f Z fun a f=>Ay 1 0 m AX f Z Z Z Z fun a f=>AT Tryz.underlying27 f Z Z h1_0 fun a f=>Ai f Z Z AA fun a f=>Aa ?_
    rcases Ae az with⟨aC,az⟩|⟨aC,az⟩
    ·refine Ak f Z aC ?_
     refine Al ?_
     refine Af (Aj (Af ?_))
     refine AY 9 AI (by kernel_rfl) m ?_
     refine BT 0 9 Tryz.underlying36 Z Tryz.sizeOf27 Z f Z fun a f=>BD 1 9 1 AX Z Z Z f Z fun a f=>Am 2 9 Z f Z fun a f=> ?_
     obtain⟨aD,aE,az⟩:=bind_some az
     refine BF 3 9 T27 h1_0 aE Z f Z Z fun aF aG a aH aI f=>BE 4 9 AO aH Z f Z fun a f=>B6 (i:=5) (ds:=[v0_0]) 9 0 Bo Z Z Z Z (by kernel_rfl) Z f Z Z Z fun a f=> ?_
     obtain⟨aJ,aK,az⟩:=bind_some az
     refine Ca (i:=6) 9 Z (by kernel_rfl) Z f Z Z Z Tryz.call42 (fun _ _ w aL m=>Wk.a m (rd2 aL h0_0) aK) fun a f=> ?_
     obtain⟨aM,aN,az⟩:=bind_some az
     refine Ca (i:=7) 9 Z (by kernel_rfl) Z f Z Z Z Tryz.call50 (fun _ _ w aO m=>Wk.z m (rd1 aO aI) aN) fun a f=>q_p 8 9 Z f (fun _=>Bs (f.eval Z)) fun a f=>AU fun aP w aQ m=> ?_
     have h1_0:=rd2 aQ h1_0
     have aH:=At.mono aQ aH
     have aI:=rd1 aQ aI
     have h0_0:=rd2 aQ h0_0
     have h1_1:=rd2 aQ h1_1
     refine Aa ?_
     rcases Ae az with⟨aR,az⟩|⟨aR,az⟩
     ·refine Ak f Z aR ?_
      refine Ac ?_
      refine Ad f Z fun a f=>Aa ?_
      refine Ao ?_
      have m:Mem W aP w H:=Mem.drop (H':=[Itm.box aa 29 [v0_0],Itm.box ab 36 [v1_0,v1_1]]) m
      obtain rfl:=sj az
      obtain rfl:=aA _ rfl
      obtain rfl:=sj hd
      exact⟨[(.bool false)],⟨f.get _ _ Z,trivial⟩,f.defers,_,[],(gt af (gt ao (gt aB aQ))),m,Z,Z⟩
     ·refine Ag f Z aR ?_
      refine Al ?_
      refine Ah ?_
      refine Ab f Z fun a f=>Ai f Z Z As fun a f=>Ad f Z fun a f=>Aa ?_
      obtain rfl:=sj az
      exact⟨_,Z,_,Z,_,(gt aB aQ),f.k Z,m⟩
    ·refine Ag f Z aC ?_
     refine Aw Z ?_
     obtain rfl:=sj az
     obtain rfl:=aA _ rfl
     exact⟨_,Z,_,aB,f.k Z,m⟩
   ·rintro a w ⟨_,rfl,au,aS,f,m⟩
    have h0_0:=rd2 aS h0_0
    have h1_0:=rd2 aS h1_0
    have h1_1:=rd2 aS h1_1
    refine Ac ?_
    refine AE 0 0 (ds:=[v0_0]) m Bo f Z Z Z Z Z fun a f=> ?_
    obtain⟨aT,aU,hd⟩:=bind_some hd
    refine AK f Z Tryz.call51 (Wk.i0 m h0_0 aU) fun aV aW aX w aY m aZ a f=> ?_
    obtain⟨a0,a1,rfl,rfl,a2⟩:=aZ
    have h0_0:=rd2 aY h0_0
    have h1_0:=rd2 aY h1_0
    have h1_1:=rd2 aY h1_1
    refine Ad f Z fun a f=>Aa (Af (Ac ?_))
    refine Ad f Z fun a f=>Aa ?_
    obtain⟨a3,a4,hd⟩:=bind_some hd
    refine AF (fun a w=>∃q_155':Unit,a3= .inl q_155'∧∃(a5:GH),GLe aW a5∧Fr a 69 [(2,(.pointer (some ⟨aa,0,none⟩))),(3,(.pointer (some ⟨ab,0,none⟩)))]∧Mem W a5 w (Itm.box aa 29 [v0_0]::Itm.box ab 36 [v1_0,v1_1]::H)) ?_ ?_
    ·refine Aj ?_
     have m:=m.front 2 rfl
     have m:=m.front 2 rfl
     refine AC (fun a6 a w=>∃a7:Int,a7=a6∧∃(a8:GH),GLe aW a8∧Fr a 69 [(2,(.pointer (some ⟨aa,0,none⟩))),(3,(.pointer (some ⟨ab,0,none⟩))),(6,a0),(7,(.int .i64 a7))]∧Mem W a8 w (Itm.box aa 29 [v0_0]::Itm.box ab 36 [v1_0,v1_1]::a1::H)) a4 ⟨_,Z,_,gr,f.k Z,m⟩ ?_
     clear a4 f m
     rintro a6 a9 ba bb a w ⟨a7,rfl,a8,bc,f,m⟩
     have h0_0:=rd2 bc h0_0
     have h1_0:=rd2 bc h1_0
     have h1_1:=rd2 bc h1_1
     have a2:=Ow.mono (RSl.mono (RI.mono _)) bc a2
     refine Af (Ac ?_)
     refine Ab f Z fun a f=>Ab f Z fun a f=>Bw 2 m a2 Z Tryz.underlying27 f Z Z fun a f=>Ai f Z Z AA fun a f=>Aa ?_
     rcases Ae ba with⟨bd,ba⟩|⟨bd,ba⟩
     ·refine Ak f Z bd ?_
      refine Al ?_
      refine Af (Aj (Af ?_))
      refine AY 7 AI (by kernel_rfl) m ?_
      refine B6 (i:=0) (ds:=[v1_0,v1_1]) 7 1 BG Z Z Z Z (by kernel_rfl) Z f Z Z Z fun a f=>Am 1 7 Z f Z fun a f=>Am 2 7 Z f Z fun a f=> ?_
      obtain⟨be,bf,ba⟩:=bind_some ba
      refine AW 3 7 2 m a2 T27 bf Z f Z Z fun bg a bh f=>Bg 4 7 2 a2 AO bh bf Z f Z fun bi a bj f=> ?_
      obtain⟨bk,bl,ba⟩:=bind_some ba
      refine Ca (i:=5) 7 Z (by kernel_rfl) Z f Z Z Z Tryz.call52 (fun _ _ w bm m=>Wk.Z0 m (rd2 bm h1_0) (rd2 bm h1_1) (rd1 bm bj) bl) fun a f=>q_p 6 7 Z f (fun _=>Bs (f.eval Z)) fun a f=>AU fun bn w bo m=> ?_
      have h1_0:=rd2 bo h1_0
      have h1_1:=rd2 bo h1_1
      have bj:=rd1 bo bj
      have h0_0:=rd2 bo h0_0
      have a2:=Ow.mono (RSl.mono (RI.mono _)) bo a2
      refine Aa ?_
      rcases Ae ba with⟨bp,ba⟩|⟨bp,ba⟩
      ·refine Ak f Z bp ?_
       refine Ac ?_
       refine Ad f Z fun a f=>Aa ?_
       refine Ao ?_
       have m:Mem W bn w H:=Mem.drop (H':=[Itm.box aa 29 [v0_0],Itm.box ab 36 [v1_0,v1_1],a1]) m
       obtain rfl:=sj ba
       obtain rfl:=bb _ rfl
       obtain rfl:=sj hd
       exact⟨[(.bool false)],⟨f.get _ _ Z,trivial⟩,f.defers,_,[],(gt af (gt ao (gt aS (gt aY (gt bc bo))))),m,Z,Z⟩
      ·refine Ag f Z bp ?_
       refine Al ?_
       refine Ah ?_
       refine Ab f Z fun a f=>Ai f Z Z As fun a f=>Ad f Z fun a f=>Aa ?_
       obtain rfl:=sj ba
       exact⟨_,Z,_,Z,_,(gt bc bo),f.k Z,m⟩
     ·refine Ag f Z bd ?_
      refine Aw Z ?_
      have m:=m.eraseAt 2
      obtain rfl:=sj ba
      obtain rfl:=bb _ rfl
      exact⟨_,Z,_,bc,f.k Z,m⟩
    ·rintro a w ⟨_,rfl,a5,bq,f,m⟩
     have h0_0:=rd2 bq h0_0
     have h1_0:=rd2 bq h1_0
     have h1_1:=rd2 bq h1_1
     refine Af (Ac ?_)
     refine Ad f Z fun a f=>Aa ?_
     obtain⟨br,bs,hd⟩:=bind_some hd
     refine AF (fun a w=>∃q_304':Unit,br= .inl q_304'∧∃(bt:GH),GLe a5 bt∧Fr a 69 []∧Mem W bt w (H)) ?_ ?_
     ·refine Aj ?_
      refine AC (fun bu a w=>∃bv:Int,bv=bu∧∃(bw:GH),GLe a5 bw∧Fr a 69 [(2,(.pointer (some ⟨aa,0,none⟩))),(3,(.pointer (some ⟨ab,0,none⟩))),(8,(.int .i64 bv))]∧Mem W bw w (Itm.box aa 29 [v0_0]::Itm.box ab 36 [v1_0,v1_1]::H)) bs ⟨_,Z,_,gr,f.k Z,m⟩ ?_
      clear bs f m
      rintro bu bx bz bA a w ⟨bv,rfl,bw,bB,f,m⟩
      have h0_0:=rd2 bB h0_0
      have h1_0:=rd2 bB h1_0
      have h1_1:=rd2 bB h1_1
      refine Af (Ac ?_)
      refine Ab f Z fun a f=>AE 0 0 (ds:=[v0_0]) m Bo f Z Z Z Z Z fun a f=> ?_
      obtain⟨bC,bD,bz⟩:=bind_some bz
      refine Bc f Z Tryz.call42 (Wk.a m h0_0 bD) fun bE w bF m a f=> ?_
      have h0_0:=rd2 bF h0_0
      have h1_0:=rd2 bF h1_0
      have h1_1:=rd2 bF h1_1
      refine Ai f Z Z AA fun a f=>Aa ?_
      rcases Ae bz with⟨bG,bz⟩|⟨bG,bz⟩
      ·refine Ak f Z bG ?_
       refine Al ?_
       refine Af (Aj (Ac ?_))
       refine AE 1 0 (ds:=[v1_0,v1_1]) m BG f Z Z Z Z Z fun a f=>Ab f Z fun a f=> ?_
       obtain⟨bH,bI,bz⟩:=bind_some bz
       refine AK f Z Tryz.call53 (Wk.V0 m h1_0 h1_1 bI) fun bJ bK bL w bM m bN a f=> ?_
       obtain⟨bO,bP,rfl,rfl,bQ⟩:=bN
       have h1_0:=rd2 bM h1_0
       have h1_1:=rd2 bM h1_1
       have h0_0:=rd2 bM h0_0
       refine Ad f Z fun a f=>Aa (Ac ?_)
       refine Ab f Z fun a f=>Bw 0 m bQ Z Tryz.underlying31 f Z Z fun a f=>Ai f Z Z BH fun a f=>Ab f Z fun a f=> ?_
       obtain⟨bR,bS,bz⟩:=bind_some bz
       refine BA 7 (fun a w=>∃bT,GLe bK bT∧Mem W bT w (bP::Itm.box aa 29 [v0_0]::Itm.box ab 36 [v1_0,v1_1]::H)∧Fr a 69 [(2,(.pointer (some ⟨aa,0,none⟩))),(3,(.pointer (some ⟨ab,0,none⟩))),(8,(.int .i64 bv)),(9,bO),(58,bO),(59,(.int .i64 (bH.length:Int))),(60,(.bool ((bH.length:Int)==0))),(61,(.bool ((bH.length:Int)==0))),(68,(.bool bR))]) ?_ ?_
       ·rcases Ae bS with⟨bU,bS⟩|⟨bU,bS⟩
        ·refine AB f bU fun a f=> ?_
         refine AB f bU fun a f=>AB f bU fun a f=>AB f bU fun a f=>AB f bU fun a f=>AB f bU fun a f=>l_o f (A3 (f.eval Z) bU (f.eval Z)) fun a f=> ?_
         obtain rfl:=sj bS
         exact⟨_,gr,m,f.k Z⟩
        ·refine Az f bU ?_
         refine AE 2 0 (ds:=[v1_0,v1_1]) m BG f Z Z Z Z Z fun a f=>Az f bU ?_
         refine Ab f Z fun a f=>Az f bU ?_
         obtain⟨bV,bW,bS⟩:=bind_some bS
         refine AK f Z Tryz.call54 (Ow.lendCall (RI.mono _) 0 bQ m Z (fun bX bY m bZ=>Wk.B m (rd2 bY h1_0) (rd2 bY h1_1) bZ bW) (fun _ _ _ _ h=>h)) fun b0 b1 b2 w b3 m b4 a f=> ?_
         obtain⟨rfl,rfl⟩:=b4
         have h1_0:=rd2 b3 h1_0
         have h1_1:=rd2 b3 h1_1
         have bQ:=od1 b3 bQ
         have h0_0:=rd2 b3 h0_0
         refine Az f bU ?_
         refine Ab f Z fun a f=>Az f bU ?_
         refine Bw 0 m bQ Z Tryz.underlying31 f Z Z fun a f=>Az f bU ?_
         refine Ai f Z Z Cs fun a f=>l_o f (A2 (f.eval Z) bU (f.eval Z)) fun a f=> ?_
         obtain rfl:=sj bS
         exact⟨_,b3,m,f.k Z⟩
       ·rintro a w ⟨bT,b5,m,f⟩
        have bQ:=od1 b5 bQ
        have h0_0:=rd2 b5 h0_0
        have h1_0:=rd2 b5 h1_0
        have h1_1:=rd2 b5 h1_1
        refine Aa ?_
        rcases Ae bz with⟨b6,bz⟩|⟨b6,bz⟩
        ·refine Ak f Z b6 ?_
         refine Ac ?_
         refine Ad f Z fun a f=>Aa ?_
         refine Ao ?_
         have m:Mem W bT w H:=Mem.drop (H':=[bP,Itm.box aa 29 [v0_0],Itm.box ab 36 [v1_0,v1_1]]) m
         obtain rfl:=sj bz
         obtain rfl:=bA _ rfl
         obtain rfl:=sj hd
         exact⟨[(.bool false)],⟨f.get _ _ Z,trivial⟩,f.defers,_,[],(gt af (gt ao (gt aS (gt aY (gt bq (gt bB (gt bF (gt bM b5)))))))),m,Z,Z⟩
        ·refine Ag f Z b6 ?_
         refine Al ?_
         refine Ah ?_
         refine Ab f Z fun a f=>Ai f Z Z As fun a f=>Ad f Z fun a f=>Aa ?_
         have m:=m.front 2 rfl
         have m:=m.front 2 rfl
         have m:=m.eraseAt 2
         obtain rfl:=sj bz
         exact⟨_,Z,_,Z,_,(gt bB (gt bF (gt bM b5))),f.k Z,m⟩
      ·refine Ag f Z bG ?_
       refine Aw Z ?_
       have m:Mem W bE w H:=Mem.drop (H':=[Itm.box aa 29 [v0_0],Itm.box ab 36 [v1_0,v1_1]]) m
       obtain rfl:=sj bz
       obtain rfl:=bA _ rfl
       exact⟨_,Z,_,(gt bB bF),f.weak trivial,m⟩
     ·rintro a w ⟨_,rfl,bt,b7,f,m⟩
      refine Ac ?_
      refine Ad f Z fun a f=>Aa ?_
      refine Ao ?_
      obtain rfl:=sj hd
      exact⟨[(.bool true)],⟨f.get _ _ Z,trivial⟩,f.defers,_,[],(gt af (gt ao (gt aS (gt aY (gt bq b7))))),m,Z,Z⟩
theorem Wk.G0 {W w:World}{G:GH}{H:List Itm}{v0_0:Value}{v0_1:Value}{x0_0:(List (List Int))}{x0_1:(List (List Int))}(m:Mem W G w (H))(h0_0:RSl (RSl (RI .i64)) G v0_0 x0_0)(h0_1:RSl (RSl (RI .i64)) G v0_1 x0_1){y:((List (List Int)))×((List (List Int)))}(hd:D.G0 x0_0 x0_1=some y):
  Calls Tryz.prog 97 #[(.agg #[v0_0,v0_1])] w (Res W G H (fun G' Ho v=>∃r0:Value,∃i0:Itm,∃r2:Value,∃i2:Itm,Ho=[i0,i2]∧v=(.agg #[r0,r2])∧Ow (RSl (RI .i64)) 31 G' i0 r0 y.1∧Ow (RSl (RI .i64)) 31 G' i2 r2 y.2)):=by
 refine Aq (args:=[(.agg #[v0_0,v0_1])]) (N:=51) [.cell 2 36] Tryz.func97 Z Z (Nat.le_of_ble_eq_true Z) Z fun a f=> ?_
 unfold D.G0 at hd
 refine Ac ?_
 refine Bm (cs:=[v0_0,v0_1]) m f Z Z Z fun aa w a m f=>Bp (cs:=[(.slice none 0 0),(.slice none 0 0)]) Tryz.zeroValue36 m f Z Z fun ab w a m f=>Aa (Ac ?_)
 have ac:∀w,(Instr.build 36 #[]).run Tryz.prog w= .ok (.agg #[(.slice none 0 0),(.slice none 0 0)]) w:=by intro w;simp[Instr.build,Instr.fill,Ct,Cg,B3,B5,BQ,Ch]
 refine CL f Z Z ac fun a f=>Bp (cs:=[(.slice none 0 0),(.slice none 0 0)]) Tryz.zeroValue36 m f Z Z fun ad w a m f=>AG 0 0 (ds:=[(.slice none 0 0),(.slice none 0 0)]) m Tryz.sizeOf36 f Z Z Z (Av Z (Av Z AS)) Z (Nat.le_of_ble_eq_true Z) Z fun w m=>Aa (Af (Ac ?_))
 refine Ad f Z fun a f=>Aa ?_
 obtain⟨ae,m,af⟩:=Ow.nil (RSl (RI .i64)) 31 m
 obtain⟨ag,ah,hd⟩:=bind_some hd
 refine AF (fun a w=>∃ai:List (List Int),ai=ag∧∃(aj:GH) (ak:Value) (al:Itm),GLe G aj∧Fr a 51 [(1,(.pointer (some ⟨aa,0,none⟩))),(2,(.pointer (some ⟨ab,0,none⟩))),(3,(.pointer (some ⟨ad,0,none⟩)))]∧Mem W aj w (Itm.box aa 36 [v0_0,v0_1]::Itm.box ab 36 [(.slice none 0 0),(.slice none 0 0)]::Itm.box ad 36 [ak,(.slice none 0 0)]::al::H)∧Ow (RSl (RI .i64)) 31 aj al ak ai) ?_ ?_
 ·refine Aj ?_
  have m:=m.front 1 rfl
  have m:=m.front 2 rfl
  have m:Mem W G w (Itm.box aa 36 [v0_0,v0_1]::Itm.box ab 36 [(.slice none 0 0),(.slice none 0 0)]::Itm.box ad 36 [(.slice none 0 0),(.slice none 0 0)]::ae::H):=m.front 3 rfl
  refine AC (fun am a w=>∃an:Int,∃ao:List (List Int),(an,ao)=am∧∃(ap:GH) (aq:Value) (ar:Itm),GLe G ap∧Fr a 51 [(1,(.pointer (some ⟨aa,0,none⟩))),(2,(.pointer (some ⟨ab,0,none⟩))),(3,(.pointer (some ⟨ad,0,none⟩))),(4,(.int .i64 an))]∧Mem W ap w (Itm.box aa 36 [v0_0,v0_1]::Itm.box ab 36 [(.slice none 0 0),(.slice none 0 0)]::Itm.box ad 36 [aq,(.slice none 0 0)]::ar::H)∧Ow (RSl (RI .i64)) 31 ap ar aq ao) ah ⟨_,_,Z,_,(.slice none 0 0),ae,gr,f.k Z,m,af⟩ ?_
  clear ah f m
  rintro am au av aw a w ⟨an,ao,rfl,ap,aq,ar,ax,f,m,ay⟩
  have h0_0:=rd2 ax h0_0
  have h0_1:=rd2 ax h0_1
  refine Af (Ac ?_)
  refine Ab f Z fun a f=>Bk Tryz.underlying36 Z Tryz.sizeOf27 f Z fun a f=>Ay 0 0 m AX f Z Z Z Z fun a f=>AT Tryz.underlying27 f Z Z h0_0 fun a f=>Ai f Z Z AA fun a f=>Aa ?_
  rcases Ae av with⟨az,av⟩|⟨az,av⟩
  ·refine Ak f Z az ?_
   refine Al ?_
   refine Af (Aj ?_)
   refine AY 9 AI (by kernel_rfl) m ?_
   refine BT 0 9 Tryz.underlying36 Z Tryz.sizeOf27 Z f Z fun a f=>BD 1 9 2 AX Z Z Z f Z fun a f=>BT 2 9 Tryz.underlying36 Z Tryz.sizeOf27 Z f Z fun a f=>BD 3 9 0 AX Z Z Z f Z fun a f=>Am 4 9 Z f Z fun a f=> ?_
   obtain⟨aA,aB,av⟩:=bind_some av
   refine BF 5 9 T27 h0_0 aB Z f Z Z fun aC aD a aE aF f=>BE 6 9 AO aE Z f Z fun a f=>Br (i:=7) Z (by kernel_rfl) Z fun aG w aH m aI aI=> ?_
   have h0_0:=rd2 aH h0_0
   have aE:=At.mono aH aE
   have aF:=rd1 aH aF
   have h0_1:=rd2 aH h0_1
   have ay:=Ow.mono (RSl.mono (RI.mono _)) aH ay
   obtain⟨aJ,aK,av⟩:=bind_some av
   refine AK f Z Tryz.call95 (Wk.e m aF aK) fun aL aM aN w aO m aP a f=> ?_
   obtain⟨aQ,aR,rfl,rfl,aS⟩:=aP
   have h0_0:=rd2 aO h0_0
   have aE:=At.mono aO aE
   have aF:=rd1 aO aF
   have h0_1:=rd2 aO h0_1
   have ay:=Ow.mono (RSl.mono (RI.mono _)) aO ay
   refine Aa ?_
   refine aI aM [aR] _ _ aO m ?_
   refine Br (i:=8) Z (by kernel_rfl) Z fun aT w aU m aV aV=> ?_
   have h0_0:=rd2 aU h0_0
   have aE:=At.mono aU aE
   have aF:=rd1 aU aF
   have aS:=od1 aU aS
   have h0_1:=rd2 aU h0_1
   have ay:=Ow.mono (RSl.mono (RI.mono _)) aU ay
   obtain⟨aW,aX,m,aY⟩:=Ow.stamp (RI.mono _) aS m
   have h0_0:=rd2 aX h0_0
   have aE:=At.mono aX aE
   have aF:=rd1 aX aF
   have h0_1:=rd2 aX h0_1
   have ay:=Ow.mono (RSl.mono (RI.mono _)) aX ay
   refine A7 (R:=(RSl (RI .i64))) (xs:=([aJ]:List (List Int))) (RSl.one _) m T27 f Z Z Z (by decide) (All2.cons aY (All2.nil _)) fun aZ a0 w a m a1 f=>Aa ?_
   refine aV aW [aZ] _ _ aX m ?_
   refine AU fun a2 w a3 m=> ?_
   have h0_0:=rd2 a3 h0_0
   have aE:=At.mono a3 aE
   have aF:=rd1 a3 aF
   have aY:=rd1 a3 aY
   have a1:=Ow.mono (RSl.mono (RI.mono _)) a3 a1
   have h0_1:=rd2 a3 h0_1
   have ay:=Ow.mono (RSl.mono (RI.mono _)) a3 ay
   obtain⟨a4,a5,av⟩:=bind_some av
   refine Bh (RSl.one _) 4 m ay Z T27 Z (by decide) f Z Z Z (Ow.src (j:=0) a1 m Z) a5 fun a6 a7 w a m a8 f=>Bk Tryz.underlying36 Z Tryz.sizeOf27 f Z fun a f=>AG 3 0 (ds:=[a7]) m Tryz.sizeOf27 f Z Z (Ow.cells 4 m a8 Z) (Av (Ow.one1 4 m a8 Z) AS) Z (Nat.le_of_ble_eq_true Z) Z fun w m=>Aa (Ah ?_)
   refine Ab f Z fun a f=>Ai f Z Z As fun a f=>Ad f Z fun a f=>Aa ?_
   have m:=m.front 4 rfl
   have m:=m.front 4 rfl
   have m:Mem W a2 w (Itm.box ab 36 [(.slice none 0 0),(.slice none 0 0)]::Itm.box ad 36 [a7,(.slice none 0 0)]::a6::aZ::Itm.box aa 36 [v0_0,v0_1]::H):=m.front 4 rfl
   have m:=m.front 4 rfl
   have m:Mem W a2 w (Itm.box aa 36 [v0_0,v0_1]::Itm.box ab 36 [(.slice none 0 0),(.slice none 0 0)]::Itm.box ad 36 [a7,(.slice none 0 0)]::a6::H):=m.eraseAt 4
   obtain rfl:=sj av
   exact⟨_,Z,_,_,Z,_,a7,a6,(gt ax (gt aH (gt aO (gt aU (gt aX a3))))),f.k Z,m,a8⟩
  ·refine Ag f Z az ?_
   refine Aw Z ?_
   obtain rfl:=sj av
   obtain rfl:=aw _ rfl
   exact⟨_,Z,_,aq,ar,ax,f.k Z,m,ay⟩
 ·rintro a w ⟨ai,rfl,aj,ak,al,a9,f,m,ba⟩
  have h0_0:=rd2 a9 h0_0
  have h0_1:=rd2 a9 h0_1
  refine Af (Ac ?_)
  refine Ad f Z fun a f=>Aa ?_
  obtain⟨bb,m,bc⟩:=Ow.nil (RSl (RI .i64)) 31 m
  obtain⟨bd,be,hd⟩:=bind_some hd
  refine AF (fun a w=>∃bf:List (List Int),bf=bd∧∃(bg:GH) (bh:Value) (bi:Itm),GLe aj bg∧Fr a 51 [(2,(.pointer (some ⟨ab,0,none⟩))),(3,(.pointer (some ⟨ad,0,none⟩)))]∧Mem W bg w (Itm.box ab 36 [(.slice none 0 0),(.slice none 0 0)]::Itm.box ad 36 [ak,bh]::al::bi::H)∧Ow (RSl (RI .i64)) 31 bg bi bh bf) ?_ ?_
  ·refine Aj ?_
   have m:=m.front 4 rfl
   have m:=m.front 4 rfl
   have m:Mem W aj w (Itm.box ab 36 [(.slice none 0 0),(.slice none 0 0)]::Itm.box ad 36 [ak,(.slice none 0 0)]::al::bb::Itm.box aa 36 [v0_0,v0_1]::H):=m.front 4 rfl
   have m:Mem W aj w (Itm.box aa 36 [v0_0,v0_1]::Itm.box ab 36 [(.slice none 0 0),(.slice none 0 0)]::Itm.box ad 36 [ak,(.slice none 0 0)]::al::bb::H):=m.front 4 rfl
   refine AC (fun bj a w=>∃bk:Int,∃bl:List (List Int),(bk,bl)=bj∧∃(bm:GH) (bn:Value) (bo:Itm),GLe aj bm∧Fr a 51 [(1,(.pointer (some ⟨aa,0,none⟩))),(2,(.pointer (some ⟨ab,0,none⟩))),(3,(.pointer (some ⟨ad,0,none⟩))),(5,(.int .i64 bk))]∧Mem W bm w (Itm.box aa 36 [v0_0,v0_1]::Itm.box ab 36 [(.slice none 0 0),(.slice none 0 0)]::Itm.box ad 36 [ak,bn]::al::bo::H)∧Ow (RSl (RI .i64)) 31 bm bo bn bl) be ⟨_,_,Z,_,(.slice none 0 0),bb,gr,f.k Z,m,bc⟩ ?_
   clear be f m
   rintro bj bp bq br a w ⟨bk,bl,rfl,bm,bn,bo,bs,f,m,bt⟩
   have h0_0:=rd2 bs h0_0
   have h0_1:=rd2 bs h0_1
   have ba:=Ow.mono (RSl.mono (RI.mono _)) bs ba
   refine Af (Ac ?_)
   refine Ab f Z fun a f=>Bk Tryz.underlying36 Z Tryz.sizeOf27 f Z fun a f=>Ay 0 1 m AX f Z Z Z Z fun a f=>AT Tryz.underlying27 f Z Z h0_1 fun a f=>Ai f Z Z AA fun a f=>Aa ?_
   rcases Ae bq with⟨bu,bq⟩|⟨bu,bq⟩
   ·refine Ak f Z bu ?_
    refine Al ?_
    refine Af (Aj ?_)
    have m:Mem W bm w (bo::Itm.box aa 36 [v0_0,v0_1]::Itm.box ab 36 [(.slice none 0 0),(.slice none 0 0)]::Itm.box ad 36 [ak,bn]::al::H):=m.front 4 rfl
    obtain⟨bv,bw,m,bx⟩:=Ow.stamp (RSl.mono (RI.mono _)) bt m
    have h0_0:=rd2 bw h0_0
    have h0_1:=rd2 bw h0_1
    have ba:=Ow.mono (RSl.mono (RI.mono _)) bw ba
    refine AY 18 AI (by kernel_rfl) m ?_
    refine BT 0 18 Tryz.underlying36 Z Tryz.sizeOf27 Z f Z fun a f=>BD 1 18 2 AX Z Z Z f Z fun a f=>BT 2 18 Tryz.underlying36 Z Tryz.sizeOf27 Z f Z fun a f=>BD 3 18 0 AX Z Z Z f Z fun a f=>Am 4 18 Z f Z fun a f=> ?_
    obtain⟨bz,bA,bq⟩:=bind_some bq
    refine BF 5 18 T27 h0_1 bA Z f Z Z fun bB bC a bD bE f=>BE 6 18 AO bD Z f Z fun a f=> ?_
    obtain⟨bF,bG,bq⟩:=bind_some bq
    refine BF 7 18 T31 bE bG Z f Z Z fun bH bI a bJ bK f=> ?_
    subst bK
    refine BE 8 18 Pl2 bJ Z f Z fun a f=>BT 9 18 Tryz.underlying36 Z Tryz.sizeOf27 Z f Z fun a f=>BD 10 18 0 AX Z Z Z f Z fun a f=>Am 11 18 Z f Z fun a f=> ?_
    obtain⟨bL,bM,bq⟩:=bind_some bq
    refine BF 12 18 T27 h0_1 bM Z f Z Z fun bN bO a bP bQ f=>BE 13 18 AO bP Z f Z fun a f=> ?_
    obtain⟨bR,bS,bq⟩:=bind_some bq
    refine BF 14 18 T31 bQ bS Z f Z Z fun bT bU a bV bW f=> ?_
    subst bW
    refine BE 15 18 Pl2 bV Z f Z fun a f=>Br (i:=16) Z (by kernel_rfl) Z fun bX w bY m bZ bZ=> ?_
    have bx:=rd2 bY bx
    have h0_1:=rd2 bY h0_1
    have bD:=At.mono bY bD
    have bE:=rd1 bY bE
    have bJ:=At.mono bY bJ
    have bP:=At.mono bY bP
    have bQ:=rd1 bY bQ
    have bV:=At.mono bY bV
    have h0_0:=rd2 bY h0_0
    have ba:=Ow.mono (RSl.mono (RI.mono _)) bY ba
    obtain⟨b0,b1,bq⟩:=bind_some bq
    refine AK f Z Tryz.call96 (Wk.I m bx b1) fun b2 b3 b4 w b5 m b6 a f=> ?_
    obtain⟨b7,b8,rfl,rfl,b9⟩:=b6
    have bx:=rd2 b5 bx
    have h0_1:=rd2 b5 h0_1
    have bD:=At.mono b5 bD
    have bE:=rd1 b5 bE
    have bJ:=At.mono b5 bJ
    have bP:=At.mono b5 bP
    have bQ:=rd1 b5 bQ
    have bV:=At.mono b5 bV
    have h0_0:=rd2 b5 h0_0
    have ba:=Ow.mono (RSl.mono (RI.mono _)) b5 ba
    refine Aa ?_
    refine bZ b3 [b8] _ _ b5 m ?_
    refine BT 17 18 Tryz.underlying36 Z Tryz.sizeOf27 Z f Z fun a f=>AU fun ca w cb m=> ?_
    have bx:=rd2 cb bx
    have h0_1:=rd2 cb h0_1
    have bD:=At.mono cb bD
    have bE:=rd1 cb bE
    have bJ:=At.mono cb bJ
    have bP:=At.mono cb bP
    have bQ:=rd1 cb bQ
    have bV:=At.mono cb bV
    have b9:=Ow.mono (RSl.mono (RI.mono _)) cb b9
    have h0_0:=rd2 cb h0_0
    have ba:=Ow.mono (RSl.mono (RI.mono _)) cb ba
    refine AG 3 1 (ds:=[b7]) m Tryz.sizeOf27 f Z Z (Ow.cells 0 m b9 Z) (Av (Ow.one1 0 m b9 Z) AS) Z (Nat.le_of_ble_eq_true Z) Z fun w m=>Aa (Ah ?_)
    refine Ab f Z fun a f=>Ai f Z Z As fun a f=>Ad f Z fun a f=>Aa ?_
    have m:=m.front 4 rfl
    have m:=m.front 4 rfl
    have m:Mem W ca w (Itm.box ab 36 [(.slice none 0 0),(.slice none 0 0)]::Itm.box ad 36 [ak,b7]::al::b8::Itm.box aa 36 [v0_0,v0_1]::H):=m.front 4 rfl
    have m:Mem W ca w (Itm.box aa 36 [v0_0,v0_1]::Itm.box ab 36 [(.slice none 0 0),(.slice none 0 0)]::Itm.box ad 36 [ak,b7]::al::b8::H):=m.front 4 rfl
    obtain rfl:=sj bq
    exact⟨_,Z,_,_,Z,_,b7,b8,(gt bs (gt bw (gt bY (gt b5 cb)))),f.k Z,m,b9⟩
   ·refine Ag f Z bu ?_
    refine Aw Z ?_
    have m:=m.front 4 rfl
    have m:=m.front 4 rfl
    have m:Mem W bm w (Itm.box ad 36 [ak,bn]::al::bo::Itm.box aa 36 [v0_0,v0_1]::Itm.box ab 36 [(.slice none 0 0),(.slice none 0 0)]::H):=m.front 4 rfl
    have m:=m.front 4 rfl
    have m:Mem W bm w (Itm.box ab 36 [(.slice none 0 0),(.slice none 0 0)]::Itm.box ad 36 [ak,bn]::al::bo::H):=m.eraseAt 4
    obtain rfl:=sj bq
    obtain rfl:=br _ rfl
    exact⟨_,Z,_,bn,bo,bs,f.k Z,m,bt⟩
  ·rintro a w ⟨bf,rfl,bg,bh,bi,cc,f,m,cd⟩
   have ba:=Ow.mono (RSl.mono (RI.mono _)) cc ba
   refine Ac ?_
   refine AE 1 0 (ds:=[ak,bh]) m BG f Z Z Z Z Z fun a f=>AG 0 0 (ds:=[ak,bh]) m Tryz.sizeOf36 f Z Z Z (Av (Ow.one1 2 m ba Z) (Av (Ow.one1 3 m cd Z) AS)) Z (Nat.le_of_ble_eq_true Z) Z fun w m=>Aa ?_
   refine Ao ?_
   have ce:=Ci (P:=Tryz.prog) 0 m BG f (s:=2) rfl rfl rfl
   have m:=m.front 3 rfl
   have m:=m.front 3 rfl
   have m:Mem W bg w (al::bi::Itm.box ab 36 [ak,bh]::H):=m.eraseAt 3
   have m:=m.eraseAt 2
   obtain rfl:=sj hd
   exact⟨[(.agg #[ak,bh])],⟨ce,trivial⟩,f.defers,_,[al,bi],(gt a9 cc),m,_,_,_,_,Z,Z,ba,cd⟩
theorem Wk.g0 {W w:World}{G:GH}{H:List Itm}{v0_0:Value}{v0_1:Value}{x0_0:(List (List Int))}{x0_1:(List (List Int))}(m:Mem W G w (H))(h0_0:RSl (RSl (RI .i64)) G v0_0 x0_0)(h0_1:RSl (RSl (RI .i64)) G v0_1 x0_1){y:Int×Int}(hd:D.g0 x0_0 x0_1=some y):
  Calls Tryz.prog 98 #[(.agg #[v0_0,v0_1])] w (Res W G H (fun _ Ho v=>Ho=[]∧v= .tuple #[(.int .i64 y.1),(.int .i64 y.2)])):=by
 refine Aq (args:=[(.agg #[v0_0,v0_1])]) (N:=54) [.tmp 2,.tmp 3] Tryz.func98 Z Z (Nat.le_of_ble_eq_true Z) Z fun a f=> ?_
 unfold D.g0 at hd
 refine Ac ?_
 refine Bm (cs:=[v0_0,v0_1]) m f Z Z Z fun aa w a m f=>Ad f Z fun a f=>Ad f Z fun a f=>Aa (Af (Ac ?_))
 refine Ad f Z fun a f=>Aa ?_
 obtain⟨ab,ac,hd⟩:=bind_some hd
 refine AF (fun a w=>∃q_127':Unit,ab= .inl q_127'∧∃(ad:GH),GLe G ad∧Fr a 54 []∧Mem W ad w (H)) ?_ ?_
 ·refine Aj ?_
  refine AC (fun ae a w=>∃af:Int,af=ae∧∃(ag:GH),GLe G ag∧Fr a 54 [(1,(.pointer (some ⟨aa,0,none⟩))),(4,(.int .i64 af))]∧Mem W ag w (Itm.box aa 36 [v0_0,v0_1]::H)) ac ⟨_,Z,_,gr,f.k Z,m⟩ ?_
  clear ac f m
  rintro ae ah ai aj a w ⟨af,rfl,ag,ak,f,m⟩
  have h0_0:=rd2 ak h0_0
  have h0_1:=rd2 ak h0_1
  refine Af (Ac ?_)
  refine Ab f Z fun a f=>Bk Tryz.underlying36 Z Tryz.sizeOf27 f Z fun a f=>Ay 0 1 m AX f Z Z Z Z fun a f=>AT Tryz.underlying27 f Z Z h0_1 fun a f=>Ai f Z Z AA fun a f=>Aa ?_
  rcases Ae ai with⟨al,ai⟩|⟨al,ai⟩
  ·refine Ak f Z al ?_
   refine Al ?_
   refine Af (Aj (Ac ?_))
   refine Bk Tryz.underlying36 Z Tryz.sizeOf27 f Z fun a f=>Ay 0 1 m AX f Z Z Z Z fun a f=>Ab f Z fun a f=> ?_
   obtain⟨am,an,ai⟩:=bind_some ai
   refine AZ T27 f Z Z Z h0_1 an fun ao ap a aq ar f=>Au m AO f Z Z aq fun a f=> ?_
   obtain⟨au,av,ai⟩:=bind_some ai
   refine AZ T31 f Z Z Z ar av fun aw ax a ay az f=> ?_
   subst az
   refine Au m Pl2 f Z Z ay fun a f=>Ad f Z fun a f=>Aa (Ac ?_)
   refine Bk Tryz.underlying36 Z Tryz.sizeOf27 f Z fun a f=>Ay 0 1 m AX f Z Z Z Z fun a f=>Ab f Z fun a f=> ?_
   obtain⟨aA,aB,ai⟩:=bind_some ai
   refine AZ T27 f Z Z Z h0_1 aB fun aC aD a aE aF f=>Au m AO f Z Z aE fun a f=> ?_
   obtain⟨aG,aH,ai⟩:=bind_some ai
   refine AZ T31 f Z Z Z aF aH fun aI aJ a aK aL f=> ?_
   subst aL
   refine Au m Pl2 f Z Z aK fun a f=>Ad f Z fun a f=>Aa (Af (Af ?_))
   refine AY 11 AI (by kernel_rfl) m ?_
   refine BT 0 11 Tryz.underlying36 Z Tryz.sizeOf27 Z f Z fun a f=>BD 1 11 0 AX Z Z Z f Z fun a f=>Am 2 11 Z f Z fun a f=> ?_
   obtain⟨aM,aN,ai⟩:=bind_some ai
   refine BF 3 11 T27 h0_0 aN Z f Z Z fun aO aP a aQ aR f=>BE 4 11 AO aQ Z f Z fun a f=>BT 5 11 Tryz.underlying36 Z Tryz.sizeOf27 Z f Z fun a f=>BD 6 11 0 AX Z Z Z f Z fun a f=>Am 7 11 Z f Z fun a f=> ?_
   obtain⟨aS,aT,ai⟩:=bind_some ai
   refine BF 8 11 T27 h0_0 aT Z f Z Z fun aU aV a aW aX f=>BE 9 11 AO aW Z f Z fun a f=> ?_
   obtain⟨aY,aZ,ai⟩:=bind_some ai
   refine Ca (i:=10) 11 Z (by kernel_rfl) Z f Z Z Z Tryz.call90 (fun _ _ w a0 m=>Wk.t m (rd1 a0 aR) (rd1 a0 aX) aZ) fun a f=>AU fun a1 w a2 m=> ?_
   have h0_0:=rd2 a2 h0_0
   have aQ:=At.mono a2 aQ
   have aR:=rd1 a2 aR
   have aW:=At.mono a2 aW
   have aX:=rd1 a2 aX
   have h0_1:=rd2 a2 h0_1
   refine Aa ?_
   rcases Ae ai with⟨a3,ai⟩|⟨a3,ai⟩
   ·refine Ak f Z a3 ?_
    refine Ac ?_
    refine Ab f Z fun a f=>Ab f Z fun a f=>Ad f Z fun a f=>Ad f Z fun a f=>Aa ?_
    refine Ao ?_
    have m:Mem W a1 w H:=Mem.drop (H':=[Itm.box aa 36 [v0_0,v0_1]]) m
    obtain rfl:=sj ai
    obtain rfl:=aj _ rfl
    obtain rfl:=sj hd
    exact⟨[(.int .i64 aG),(.int .i64 au)],⟨f.get _ _ Z,f.get _ _ Z,trivial⟩,f.defers,_,[],(gt ak a2),m,Z,Z⟩
   ·refine Ag f Z a3 ?_
    refine Al ?_
    refine Af ?_
    refine AY 11 AI (by kernel_rfl) m ?_
    refine BT 0 11 Tryz.underlying36 Z Tryz.sizeOf27 Z f Z fun a f=>BD 1 11 0 AX Z Z Z f Z fun a f=>Am 2 11 Z f Z fun a f=> ?_
    obtain⟨a4,a5,ai⟩:=bind_some ai
    refine BF 3 11 T27 h0_0 a5 Z f Z Z fun a6 a7 a a8 a9 f=>BE 4 11 AO a8 Z f Z fun a f=>BT 5 11 Tryz.underlying36 Z Tryz.sizeOf27 Z f Z fun a f=>BD 6 11 0 AX Z Z Z f Z fun a f=>Am 7 11 Z f Z fun a f=> ?_
    obtain⟨ba,bb,ai⟩:=bind_some ai
    refine BF 8 11 T27 h0_0 bb Z f Z Z fun bc bd a be bf f=>BE 9 11 AO be Z f Z fun a f=> ?_
    obtain⟨bg,bh,ai⟩:=bind_some ai
    refine Ca (i:=10) 11 Z (by kernel_rfl) Z f Z Z Z Tryz.call90 (fun _ _ w bi m=>Wk.t m (rd1 bi a9) (rd1 bi bf) bh) fun a f=>AU fun bj w bk m=> ?_
    have h0_0:=rd2 bk h0_0
    have a8:=At.mono bk a8
    have a9:=rd1 bk a9
    have be:=At.mono bk be
    have bf:=rd1 bk bf
    have h0_1:=rd2 bk h0_1
    refine Aa ?_
    rcases Ae ai with⟨bl,ai⟩|⟨bl,ai⟩
    ·refine Ak f Z bl ?_
     refine Ac ?_
     refine Ab f Z fun a f=>Ab f Z fun a f=>Ad f Z fun a f=>Ad f Z fun a f=>Aa ?_
     refine Ao ?_
     have m:Mem W bj w H:=Mem.drop (H':=[Itm.box aa 36 [v0_0,v0_1]]) m
     obtain rfl:=sj ai
     obtain rfl:=aj _ rfl
     obtain rfl:=sj hd
     exact⟨[(.int .i64 au),(.int .i64 aG)],⟨f.get _ _ Z,f.get _ _ Z,trivial⟩,f.defers,_,[],(gt ak (gt a2 bk)),m,Z,Z⟩
    ·refine Ag f Z bl ?_
     refine Al ?_
     refine Ah ?_
     refine Ab f Z fun a f=>Ai f Z Z As fun a f=>Ad f Z fun a f=>Aa ?_
     obtain rfl:=sj ai
     exact⟨_,Z,_,Z,_,(gt ak (gt a2 bk)),f.k Z,m⟩
  ·refine Ag f Z al ?_
   refine Aw Z ?_
   have m:Mem W ag w H:=Mem.drop (H':=[Itm.box aa 36 [v0_0,v0_1]]) m
   obtain rfl:=sj ai
   obtain rfl:=aj _ rfl
   exact⟨_,Z,_,ak,f.weak trivial,m⟩
 ·rintro a w ⟨_,rfl,ad,bm,f,m⟩
  refine Ac ?_
  refine Ad f Z fun a f=>Ad f Z fun a f=>Aa ?_
  refine Ao ?_
  obtain rfl:=sj hd
  exact⟨[(.int .i64 (-1)),(.int .i64 (-1))],⟨f.get _ _ Z,f.get _ _ Z,trivial⟩,f.defers,_,[],bm,m,Z,Z⟩
theorem Wk.Q {W w:World}{G:GH}{H:List Itm}{v0_0:Value}{v0_1:Value}{x0_0:(List (List Int))}{x0_1:(List (List Int))}{x1:Int}{x2:Int}(m:Mem W G w (H))(h0_0:RSl (RSl (RI .i64)) G v0_0 x0_0)(h0_1:RSl (RSl (RI .i64)) G v0_1 x0_1){y:((List (List Int)))×((List (List Int)))}(hd:D.Q x0_0 x0_1 x1 x2=some y):
  Calls Tryz.prog 99 #[(.agg #[v0_0,v0_1]),(.int .i64 x1),(.int .i64 x2)] w (Res W G H (fun G' Ho v=>∃r0:Value,∃i0:Itm,∃r2:Value,∃i2:Itm,Ho=[i0,i2]∧v=(.agg #[r0,r2])∧Ow (RSl (RI .i64)) 31 G' i0 r0 y.1∧Ow (RSl (RI .i64)) 31 G' i2 r2 y.2)):=by
 refine Aq (args:=[(.agg #[v0_0,v0_1]),(.int .i64 x1),(.int .i64 x2)]) (N:=83) [.cell 6 36] Tryz.func99 Z Z (Nat.le_of_ble_eq_true Z) Z fun a f=> ?_
 unfold D.Q at hd
 refine Ac ?_
 refine Bm (cs:=[v0_0,v0_1]) m f Z Z Z fun aa w a m f=>Bp (cs:=[(.slice none 0 0),(.slice none 0 0)]) Tryz.zeroValue36 m f Z Z fun ab w a m f=>Aa (Ac ?_)
 have ac:∀w,(Instr.build 36 #[]).run Tryz.prog w= .ok (.agg #[(.slice none 0 0),(.slice none 0 0)]) w:=by intro w;simp[Instr.build,Instr.fill,Ct,Cg,B3,B5,BQ,Ch]
 refine CL f Z Z ac fun a f=>Bp (cs:=[(.slice none 0 0),(.slice none 0 0)]) Tryz.zeroValue36 m f Z Z fun ad w a m f=>AG 0 0 (ds:=[(.slice none 0 0),(.slice none 0 0)]) m Tryz.sizeOf36 f Z Z Z (Av Z (Av Z AS)) Z (Nat.le_of_ble_eq_true Z) Z fun w m=>Aa (Af (Ac ?_))
 refine Ad f Z fun a f=>Aa ?_
 obtain⟨ae,m,af⟩:=Ow.nil (RSl (RI .i64)) 31 m
 obtain⟨ag,ah,hd⟩:=bind_some hd
 refine AF (fun a w=>∃ai:List (List Int),ai=ag∧∃(aj:GH) (ak:Value) (al:Itm),GLe G aj∧Fr a 83 [(1,(.int .i64 x1)),(2,(.int .i64 x2)),(3,(.pointer (some ⟨aa,0,none⟩))),(6,(.pointer (some ⟨ab,0,none⟩))),(7,(.pointer (some ⟨ad,0,none⟩)))]∧Mem W aj w (Itm.box aa 36 [v0_0,v0_1]::Itm.box ab 36 [(.slice none 0 0),(.slice none 0 0)]::Itm.box ad 36 [ak,(.slice none 0 0)]::al::H)∧Ow (RSl (RI .i64)) 31 aj al ak ai) ?_ ?_
 ·refine Aj ?_
  have m:=m.front 1 rfl
  have m:=m.front 2 rfl
  have m:Mem W G w (Itm.box aa 36 [v0_0,v0_1]::Itm.box ab 36 [(.slice none 0 0),(.slice none 0 0)]::Itm.box ad 36 [(.slice none 0 0),(.slice none 0 0)]::ae::H):=m.front 3 rfl
  refine AC (fun am a w=>∃an:Int,∃ao:List (List Int),(an,ao)=am∧∃(ap:GH) (aq:Value) (ar:Itm),GLe G ap∧Fr a 83 [(1,(.int .i64 x1)),(2,(.int .i64 x2)),(3,(.pointer (some ⟨aa,0,none⟩))),(6,(.pointer (some ⟨ab,0,none⟩))),(7,(.pointer (some ⟨ad,0,none⟩))),(8,(.int .i64 an))]∧Mem W ap w (Itm.box aa 36 [v0_0,v0_1]::Itm.box ab 36 [(.slice none 0 0),(.slice none 0 0)]::Itm.box ad 36 [aq,(.slice none 0 0)]::ar::H)∧Ow (RSl (RI .i64)) 31 ap ar aq ao) ah ⟨_,_,Z,_,(.slice none 0 0),ae,gr,f.k Z,m,af⟩ ?_
  clear ah f m
  rintro am au av aw a w ⟨an,ao,rfl,ap,aq,ar,ax,f,m,ay⟩
  have h0_0:=rd2 ax h0_0
  have h0_1:=rd2 ax h0_1
  refine Af (Ac ?_)
  refine Ab f Z fun a f=>Bk Tryz.underlying36 Z Tryz.sizeOf27 f Z fun a f=>Ay 0 0 m AX f Z Z Z Z fun a f=>AT Tryz.underlying27 f Z Z h0_0 fun a f=>Ai f Z Z AA fun a f=>Aa ?_
  rcases Ae av with⟨az,av⟩|⟨az,av⟩
  ·refine Ak f Z az ?_
   refine Al ?_
   refine Af (Aj (Ac ?_))
   refine Ab f Z fun a f=>Ab f Z fun a f=>Ai f Z Z Cs fun a f=>Aa ?_
   rcases Ae av with⟨aA,av⟩|⟨aA,av⟩
   ·refine Ak f Z aA ?_
    refine AY 9 AI (by kernel_rfl) m ?_
    refine BT 0 9 Tryz.underlying36 Z Tryz.sizeOf27 Z f Z fun a f=>BD 1 9 2 AX Z Z Z f Z fun a f=>BT 2 9 Tryz.underlying36 Z Tryz.sizeOf27 Z f Z fun a f=>BD 3 9 0 AX Z Z Z f Z fun a f=>Am 4 9 Z f Z fun a f=> ?_
    obtain⟨aB,aC,av⟩:=bind_some av
    refine BF 5 9 T27 h0_0 aC Z f Z Z fun aD aE a aF aG f=>BE 6 9 AO aF Z f Z fun a f=>Br (i:=7) Z (by kernel_rfl) Z fun aH w aI m aJ aJ=> ?_
    have h0_0:=rd2 aI h0_0
    have aF:=At.mono aI aF
    have aG:=rd1 aI aG
    have h0_1:=rd2 aI h0_1
    have ay:=Ow.mono (RSl.mono (RI.mono _)) aI ay
    obtain⟨aK,aL,av⟩:=bind_some av
    refine AK f Z Tryz.call95 (Wk.e m aG aL) fun aM aN aO w aP m aQ a f=> ?_
    obtain⟨aR,aS,rfl,rfl,aT⟩:=aQ
    have h0_0:=rd2 aP h0_0
    have aF:=At.mono aP aF
    have aG:=rd1 aP aG
    have h0_1:=rd2 aP h0_1
    have ay:=Ow.mono (RSl.mono (RI.mono _)) aP ay
    refine Aa ?_
    refine aJ aN [aS] _ _ aP m ?_
    refine Br (i:=8) Z (by kernel_rfl) Z fun aU w aV m aW aW=> ?_
    have h0_0:=rd2 aV h0_0
    have aF:=At.mono aV aF
    have aG:=rd1 aV aG
    have aT:=od1 aV aT
    have h0_1:=rd2 aV h0_1
    have ay:=Ow.mono (RSl.mono (RI.mono _)) aV ay
    obtain⟨aX,aY,m,aZ⟩:=Ow.stamp (RI.mono _) aT m
    have h0_0:=rd2 aY h0_0
    have aF:=At.mono aY aF
    have aG:=rd1 aY aG
    have h0_1:=rd2 aY h0_1
    have ay:=Ow.mono (RSl.mono (RI.mono _)) aY ay
    refine A7 (R:=(RSl (RI .i64))) (xs:=([aK]:List (List Int))) (RSl.one _) m T27 f Z Z Z (by decide) (All2.cons aZ (All2.nil _)) fun a0 a1 w a m a2 f=>Aa ?_
    refine aW aX [a0] _ _ aY m ?_
    refine AU fun a3 w a4 m=> ?_
    have h0_0:=rd2 a4 h0_0
    have aF:=At.mono a4 aF
    have aG:=rd1 a4 aG
    have aZ:=rd1 a4 aZ
    have a2:=Ow.mono (RSl.mono (RI.mono _)) a4 a2
    have h0_1:=rd2 a4 h0_1
    have ay:=Ow.mono (RSl.mono (RI.mono _)) a4 ay
    obtain⟨a5,a6,av⟩:=bind_some av
    refine Bh (RSl.one _) 4 m ay Z T27 Z (by decide) f Z Z Z (Ow.src (j:=0) a2 m Z) a6 fun a7 a8 w a m a9 f=>Bk Tryz.underlying36 Z Tryz.sizeOf27 f Z fun a f=>AG 3 0 (ds:=[a8]) m Tryz.sizeOf27 f Z Z (Ow.cells 4 m a9 Z) (Av (Ow.one1 4 m a9 Z) AS) Z (Nat.le_of_ble_eq_true Z) Z fun w m=>Aa (Ah ?_)
    refine Ab f Z fun a f=>Ai f Z Z As fun a f=>Ad f Z fun a f=>Aa ?_
    have m:=m.front 4 rfl
    have m:=m.front 4 rfl
    have m:Mem W a3 w (Itm.box ab 36 [(.slice none 0 0),(.slice none 0 0)]::Itm.box ad 36 [a8,(.slice none 0 0)]::a7::a0::Itm.box aa 36 [v0_0,v0_1]::H):=m.front 4 rfl
    have m:=m.front 4 rfl
    have m:Mem W a3 w (Itm.box aa 36 [v0_0,v0_1]::Itm.box ab 36 [(.slice none 0 0),(.slice none 0 0)]::Itm.box ad 36 [a8,(.slice none 0 0)]::a7::H):=m.eraseAt 4
    obtain rfl:=sj av
    exact⟨_,Z,_,_,Z,_,a8,a7,(gt ax (gt aI (gt aP (gt aV (gt aY a4))))),f.k Z,m,a9⟩
   ·refine Ag f Z aA ?_
    refine Al ?_
    refine Ah ?_
    refine Ab f Z fun a f=>Ai f Z Z As fun a f=>Ad f Z fun a f=>Aa ?_
    obtain rfl:=sj av
    exact⟨_,Z,_,_,Z,_,aq,ar,ax,f.k Z,m,ay⟩
  ·refine Ag f Z az ?_
   refine Aw Z ?_
   obtain rfl:=sj av
   obtain rfl:=aw _ rfl
   exact⟨_,Z,_,aq,ar,ax,f.k Z,m,ay⟩
 ·rintro a w ⟨ai,rfl,aj,ak,al,ba,f,m,bb⟩
  have h0_0:=rd2 ba h0_0
  have h0_1:=rd2 ba h0_1
  refine Af (Ac ?_)
  refine Ad f Z fun a f=>Aa ?_
  obtain⟨bc,m,bd⟩:=Ow.nil (RSl (RI .i64)) 31 m
  obtain⟨be,bf,hd⟩:=bind_some hd
  refine AF (fun a w=>∃bg:List (List Int),bg=be∧∃(bh:GH) (bi:Value) (bj:Itm),GLe aj bh∧Fr a 83 [(6,(.pointer (some ⟨ab,0,none⟩))),(7,(.pointer (some ⟨ad,0,none⟩)))]∧Mem W bh w (Itm.box ab 36 [(.slice none 0 0),(.slice none 0 0)]::Itm.box ad 36 [ak,bi]::al::bj::H)∧Ow (RSl (RI .i64)) 31 bh bj bi bg) ?_ ?_
  ·refine Aj ?_
   have m:=m.front 4 rfl
   have m:=m.front 4 rfl
   have m:Mem W aj w (Itm.box ab 36 [(.slice none 0 0),(.slice none 0 0)]::Itm.box ad 36 [ak,(.slice none 0 0)]::al::bc::Itm.box aa 36 [v0_0,v0_1]::H):=m.front 4 rfl
   have m:Mem W aj w (Itm.box aa 36 [v0_0,v0_1]::Itm.box ab 36 [(.slice none 0 0),(.slice none 0 0)]::Itm.box ad 36 [ak,(.slice none 0 0)]::al::bc::H):=m.front 4 rfl
   refine AC (fun bk a w=>∃bl:Int,∃bm:List (List Int),(bl,bm)=bk∧∃(bn:GH) (bo:Value) (bp:Itm),GLe aj bn∧Fr a 83 [(1,(.int .i64 x1)),(2,(.int .i64 x2)),(3,(.pointer (some ⟨aa,0,none⟩))),(6,(.pointer (some ⟨ab,0,none⟩))),(7,(.pointer (some ⟨ad,0,none⟩))),(9,(.int .i64 bl))]∧Mem W bn w (Itm.box aa 36 [v0_0,v0_1]::Itm.box ab 36 [(.slice none 0 0),(.slice none 0 0)]::Itm.box ad 36 [ak,bo]::al::bp::H)∧Ow (RSl (RI .i64)) 31 bn bp bo bm) bf ⟨_,_,Z,_,(.slice none 0 0),bc,gr,f.k Z,m,bd⟩ ?_
   clear bf f m
   rintro bk bq br bs a w ⟨bl,bm,rfl,bn,bo,bp,bt,f,m,bu⟩
   have h0_0:=rd2 bt h0_0
   have h0_1:=rd2 bt h0_1
   have bb:=Ow.mono (RSl.mono (RI.mono _)) bt bb
   refine Af (Ac ?_)
   refine Ab f Z fun a f=>Bk Tryz.underlying36 Z Tryz.sizeOf27 f Z fun a f=>Ay 0 1 m AX f Z Z Z Z fun a f=>AT Tryz.underlying27 f Z Z h0_1 fun a f=>Ai f Z Z AA fun a f=>Aa ?_
   rcases Ae br with⟨bv,br⟩|⟨bv,br⟩
   ·refine Ak f Z bv ?_
    refine Al ?_
    refine Af (Aj (Ac ?_))
    refine Bk Tryz.underlying36 Z Tryz.sizeOf27 f Z fun a f=>Ay 0 1 m AX f Z Z Z Z fun a f=>Ab f Z fun a f=> ?_
    obtain⟨bw,bx,br⟩:=bind_some br
    refine AZ T27 f Z Z Z h0_1 bx fun bz bA a bB bC f=>Au m AO f Z Z bB fun a f=> ?_
    obtain⟨bD,bE,br⟩:=bind_some br
    refine AZ T31 f Z Z Z bC bE fun bF bG a bH bI f=> ?_
    subst bI
    refine Au m Pl2 f Z Z bH fun a f=>Ad f Z fun a f=>Aa (Ac ?_)
    refine Bk Tryz.underlying36 Z Tryz.sizeOf27 f Z fun a f=>Ay 0 1 m AX f Z Z Z Z fun a f=>Ab f Z fun a f=> ?_
    obtain⟨bJ,bK,br⟩:=bind_some br
    refine AZ T27 f Z Z Z h0_1 bK fun bL bM a bN bO f=>Au m AO f Z Z bN fun a f=> ?_
    obtain⟨bP,bQ,br⟩:=bind_some br
    refine AZ T31 f Z Z Z bO bQ fun bR bS a bT bU f=> ?_
    subst bU
    refine Au m Pl2 f Z Z bT fun a f=>Ad f Z fun a f=>Aa (Af (Ac ?_))
    refine Ab f Z fun a f=>Ab f Z fun a f=>Ai f Z Z BH fun a f=>Aa ?_
    obtain⟨bV,bW,br⟩:=bind_some br
    refine AF (fun a w=>∃bX:Int,bX=bV∧∃(bY:GH),GLe bn bY∧Fr a 83 [(1,(.int .i64 x1)),(2,(.int .i64 x2)),(3,(.pointer (some ⟨aa,0,none⟩))),(6,(.pointer (some ⟨ab,0,none⟩))),(7,(.pointer (some ⟨ad,0,none⟩))),(9,(.int .i64 bl)),(10,(.int .i64 bX)),(11,(.int .i64 bP))]∧Mem W bY w (Itm.box aa 36 [v0_0,v0_1]::Itm.box ab 36 [(.slice none 0 0),(.slice none 0 0)]::Itm.box ad 36 [ak,bo]::al::bp::H)) ?_ ?_
    ·rcases Ae bW with⟨bZ,bW⟩|⟨bZ,bW⟩
     ·refine Ak f Z bZ ?_
      refine Ah ?_
      refine Ab f Z fun a f=>Ad f Z fun a f=>Aa ?_
      obtain rfl:=sj bW
      exact⟨_,Z,_,gr,f.k Z,m⟩
     ·refine Ag f Z bZ ?_
      refine Al ?_
      obtain rfl:=sj bW
      exact⟨_,Z,_,gr,f.k Z,m⟩
    ·rintro a w ⟨bX,rfl,bY,b0,f,m⟩
     have h0_0:=rd2 b0 h0_0
     have h0_1:=rd2 b0 h0_1
     have bb:=Ow.mono (RSl.mono (RI.mono _)) b0 bb
     have bu:=Ow.mono (RSl.mono (RI.mono _)) b0 bu
     refine Af (Ac ?_)
     refine Ab f Z fun a f=>Ab f Z fun a f=>Ai f Z Z BH fun a f=>Aa ?_
     obtain⟨b1,b2,br⟩:=bind_some br
     refine AF (fun a w=>∃b3:Int,b3=b1∧∃(b4:GH),GLe bY b4∧Fr a 83 [(1,(.int .i64 x1)),(2,(.int .i64 x2)),(3,(.pointer (some ⟨aa,0,none⟩))),(6,(.pointer (some ⟨ab,0,none⟩))),(7,(.pointer (some ⟨ad,0,none⟩))),(9,(.int .i64 bl)),(10,(.int .i64 bX)),(11,(.int .i64 b3))]∧Mem W b4 w (Itm.box aa 36 [v0_0,v0_1]::Itm.box ab 36 [(.slice none 0 0),(.slice none 0 0)]::Itm.box ad 36 [ak,bo]::al::bp::H)) ?_ ?_
     ·rcases Ae b2 with⟨b5,b2⟩|⟨b5,b2⟩
      ·refine Ak f Z b5 ?_
       refine Ah ?_
       refine Ab f Z fun a f=>Ad f Z fun a f=>Aa ?_
       obtain rfl:=sj b2
       exact⟨_,Z,_,gr,f.k Z,m⟩
      ·refine Ag f Z b5 ?_
       refine Al ?_
       obtain rfl:=sj b2
       exact⟨_,Z,_,gr,f.k Z,m⟩
     ·rintro a w ⟨b3,rfl,b4,b6,f,m⟩
      have h0_0:=rd2 b6 h0_0
      have h0_1:=rd2 b6 h0_1
      have bb:=Ow.mono (RSl.mono (RI.mono _)) b6 bb
      have bu:=Ow.mono (RSl.mono (RI.mono _)) b6 bu
      refine Ac ?_
      refine Ab f Z fun a f=>Ab f Z fun a f=>Ai f Z Z Cs fun a f=>Aa ?_
      rcases Ae br with⟨b7,br⟩|⟨b7,br⟩
      ·refine Ak f Z b7 ?_
       have m:Mem W b4 w (bp::Itm.box aa 36 [v0_0,v0_1]::Itm.box ab 36 [(.slice none 0 0),(.slice none 0 0)]::Itm.box ad 36 [ak,bo]::al::H):=m.front 4 rfl
       obtain⟨b8,b9,m,ca⟩:=Ow.stamp (RSl.mono (RI.mono _)) bu m
       have h0_0:=rd2 b9 h0_0
       have h0_1:=rd2 b9 h0_1
       have bb:=Ow.mono (RSl.mono (RI.mono _)) b9 bb
       refine AY 16 AI (by kernel_rfl) m ?_
       refine BT 0 16 Tryz.underlying36 Z Tryz.sizeOf27 Z f Z fun a f=>BD 1 16 2 AX Z Z Z f Z fun a f=>Am 2 16 Z f Z fun a f=>Am 3 16 Z f Z fun a f=>Am 4 16 Z f Z fun a f=>q_p 5 16 Z f (fun _=>AL (f.eval Z) (f.eval Z) Cr) fun a f=> ?_
       obtain⟨cb,cc,br⟩:=bind_some br
       refine Ca (i:=6) 16 Z (by kernel_rfl) Z f Z Z Z Tryz.call114 (fun _ _ w cd m=>Wk.v m cc) fun a f=>q_p 7 16 Z f (fun _=>AL (f.eval Z) (f.eval Z) A8) fun a f=>Am 8 16 Z f Z fun a f=>Am 9 16 Z f Z fun a f=>Am 10 16 Z f Z fun a f=>q_p 11 16 Z f (fun _=>AL (f.eval Z) (f.eval Z) Cr) fun a f=> ?_
       obtain⟨ce,cf,br⟩:=bind_some br
       refine Ca (i:=12) 16 Z (by kernel_rfl) Z f Z Z Z Tryz.call114 (fun _ _ w cg m=>Wk.v m cf) fun a f=>q_p 13 16 Z f (fun _=>AL (f.eval Z) (f.eval Z) A8) fun a f=>Br (i:=14) Z (by kernel_rfl) Z fun ch w ci m cj cj=> ?_
       have ca:=rd2 ci ca
       have h0_0:=rd2 ci h0_0
       have h0_1:=rd2 ci h0_1
       have bb:=Ow.mono (RSl.mono (RI.mono _)) ci bb
       obtain⟨ck,cl,br⟩:=bind_some br
       refine AK f Z Tryz.call96 (Wk.I m ca cl) fun cm cn co w cp m cq a f=> ?_
       obtain⟨cr,ct,rfl,rfl,cu⟩:=cq
       have ca:=rd2 cp ca
       have h0_0:=rd2 cp h0_0
       have h0_1:=rd2 cp h0_1
       have bb:=Ow.mono (RSl.mono (RI.mono _)) cp bb
       refine Aa ?_
       refine cj cn [ct] _ _ cp m ?_
       refine BT 15 16 Tryz.underlying36 Z Tryz.sizeOf27 Z f Z fun a f=>AU fun cv w cw m=> ?_
       have ca:=rd2 cw ca
       have cu:=Ow.mono (RSl.mono (RI.mono _)) cw cu
       have h0_0:=rd2 cw h0_0
       have h0_1:=rd2 cw h0_1
       have bb:=Ow.mono (RSl.mono (RI.mono _)) cw bb
       refine AG 3 1 (ds:=[cr]) m Tryz.sizeOf27 f Z Z (Ow.cells 0 m cu Z) (Av (Ow.one1 0 m cu Z) AS) Z (Nat.le_of_ble_eq_true Z) Z fun w m=>Aa (Ah ?_)
       refine Ab f Z fun a f=>Ai f Z Z As fun a f=>Ad f Z fun a f=>Aa ?_
       have m:=m.front 4 rfl
       have m:=m.front 4 rfl
       have m:Mem W cv w (Itm.box ab 36 [(.slice none 0 0),(.slice none 0 0)]::Itm.box ad 36 [ak,cr]::al::ct::Itm.box aa 36 [v0_0,v0_1]::H):=m.front 4 rfl
       have m:Mem W cv w (Itm.box aa 36 [v0_0,v0_1]::Itm.box ab 36 [(.slice none 0 0),(.slice none 0 0)]::Itm.box ad 36 [ak,cr]::al::ct::H):=m.front 4 rfl
       obtain rfl:=sj br
       exact⟨_,Z,_,_,Z,_,cr,ct,(gt bt (gt b0 (gt b6 (gt b9 (gt ci (gt cp cw)))))),f.k Z,m,cu⟩
      ·refine Ag f Z b7 ?_
       refine Al ?_
       refine Ah ?_
       refine Ab f Z fun a f=>Ai f Z Z As fun a f=>Ad f Z fun a f=>Aa ?_
       obtain rfl:=sj br
       exact⟨_,Z,_,_,Z,_,bo,bp,(gt bt (gt b0 b6)),f.k Z,m,bu⟩
   ·refine Ag f Z bv ?_
    refine Aw Z ?_
    have m:=m.front 4 rfl
    have m:=m.front 4 rfl
    have m:Mem W bn w (Itm.box ad 36 [ak,bo]::al::bp::Itm.box aa 36 [v0_0,v0_1]::Itm.box ab 36 [(.slice none 0 0),(.slice none 0 0)]::H):=m.front 4 rfl
    have m:=m.front 4 rfl
    have m:Mem W bn w (Itm.box ab 36 [(.slice none 0 0),(.slice none 0 0)]::Itm.box ad 36 [ak,bo]::al::bp::H):=m.eraseAt 4
    obtain rfl:=sj br
    obtain rfl:=bs _ rfl
    exact⟨_,Z,_,bo,bp,bt,f.k Z,m,bu⟩
  ·rintro a w ⟨bg,rfl,bh,bi,bj,cx,f,m,cy⟩
   have bb:=Ow.mono (RSl.mono (RI.mono _)) cx bb
   refine Ac ?_
   refine AE 1 0 (ds:=[ak,bi]) m BG f Z Z Z Z Z fun a f=>AG 0 0 (ds:=[ak,bi]) m Tryz.sizeOf36 f Z Z Z (Av (Ow.one1 2 m bb Z) (Av (Ow.one1 3 m cy Z) AS)) Z (Nat.le_of_ble_eq_true Z) Z fun w m=>Aa ?_
   refine Ao ?_
   have cz:=Ci (P:=Tryz.prog) 0 m BG f (s:=6) rfl rfl rfl
   have m:=m.front 3 rfl
   have m:=m.front 3 rfl
   have m:Mem W bh w (al::bj::Itm.box ab 36 [ak,bi]::H):=m.eraseAt 3
   have m:=m.eraseAt 2
   obtain rfl:=sj hd
   exact⟨[(.agg #[ak,bi])],⟨cz,trivial⟩,f.defers,_,[al,bj],(gt ba cx),m,_,_,_,_,Z,Z,bb,cy⟩
theorem Wk.D0 {W w:World}{G:GH}{H:List Itm}{v0_0:Value}{v1_0:Value}{v1_1:Value}{x0_0:(List (List Int))}{x1_0:(List (List Int))}{x1_1:(List (List Int))}(m:Mem W G w (H))(h0_0:RSl (RSl (RI .i64)) G v0_0 x0_0)(h1_0:RSl (RSl (RI .i64)) G v1_0 x1_0)(h1_1:RSl (RSl (RI .i64)) G v1_1 x1_1){y:((List (List Int)))×((List (List Int)))×Bool}(hd:D.D0 x0_0 x1_0 x1_1=some y):
  Calls Tryz.prog 61 #[(.agg #[v0_0]),(.agg #[v1_0,v1_1])] w (Res W G H (fun G' Ho v=>∃r0:Value,∃i0:Itm,∃r2:Value,∃i2:Itm,Ho=[i0,i2]∧v= .tuple #[(.agg #[r0,r2]),(.bool y.2.2)]∧Ow (RSl (RI .i64)) 31 G' i0 r0 y.1∧Ow (RSl (RI .i64)) 31 G' i2 r2 y.2.1)):=by
 refine Aq (args:=[(.agg #[v0_0]),(.agg #[v1_0,v1_1])]) (N:=28) [.cell 4 36,.tmp 5] Tryz.func61 Z Z (Nat.le_of_ble_eq_true Z) Z fun a f=> ?_
 unfold D.D0 at hd
 refine Ac ?_
 refine Bm (cs:=[v0_0]) m f Z Z Z fun aa w a m f=>Bm (cs:=[v1_0,v1_1]) m f Z Z Z fun ab w a m f=>Bp (cs:=[(.slice none 0 0),(.slice none 0 0)]) Tryz.zeroValue36 m f Z Z fun ac w a m f=>Ad f Z fun a f=>Aa (Af (Ac ?_))
 refine AE 2 0 (ds:=[v0_0]) m Bo f Z Z Z Z Z fun a f=>AE 1 0 (ds:=[v1_0,v1_1]) m BG f Z Z Z Z Z fun a f=> ?_
 obtain⟨ad,ae,hd⟩:=bind_some hd
 refine Bc f Z Tryz.call16 (Wk.N0 m h0_0 h1_0 h1_1 ae) fun af w ag m a f=> ?_
 have h0_0:=rd2 ag h0_0
 have h1_0:=rd2 ag h1_0
 have h1_1:=rd2 ag h1_1
 refine l_o f (Bs (f.eval Z)) fun a f=>Aa ?_
 rcases Ae hd with⟨ah,hd⟩|⟨ah,hd⟩
 ·refine Ak f Z ah ?_
  refine Ac ?_
  have ai:∀w,(Instr.build 36 #[]).run Tryz.prog w= .ok (.agg #[(.slice none 0 0),(.slice none 0 0)]) w:=by intro w;simp[Instr.build,Instr.fill,Ct,Cg,B3,B5,BQ,Ch]
  refine CL f Z Z ai fun a f=>AG 0 0 (ds:=[(.slice none 0 0),(.slice none 0 0)]) m Tryz.sizeOf36 f Z Z Z (Av Z (Av Z AS)) Z (Nat.le_of_ble_eq_true Z) Z fun w m=>Ad f Z fun a f=>Aa ?_
  refine Ao ?_
  obtain⟨aj,m,ak⟩:=Ow.nil (RSl (RI .i64)) 31 m
  obtain⟨al,m,am⟩:=Ow.nil (RSl (RI .i64)) 31 m
  have an:=Ci (P:=Tryz.prog) 2 m BG f (s:=4) rfl rfl rfl
  have m:=m.front 1 rfl
  have m:=m.eraseAt 4
  have m:Mem W af w (aj::al::Itm.box ac 36 [(.slice none 0 0),(.slice none 0 0)]::H):=m.eraseAt 3
  have m:=m.eraseAt 2
  obtain rfl:=sj hd
  exact⟨[(.agg #[(.slice none 0 0),(.slice none 0 0)]),(.bool false)],⟨an,f.get _ _ Z,trivial⟩,f.defers,_,[aj,al],ag,m,_,_,_,_,Z,Z,ak,am⟩
 ·refine Ag f Z ah ?_
  refine Al ?_
  refine Ac ?_
  refine AE 1 0 (ds:=[v1_0,v1_1]) m BG f Z Z Z Z Z fun a f=> ?_
  obtain⟨ao,ap,hd⟩:=bind_some hd
  refine AK f Z Tryz.call97 (Wk.G0 m h1_0 h1_1 ap) fun aq ar au w av m aw a f=> ?_
  obtain⟨ax,ay,az,aA,rfl,rfl,aB,aC⟩:=aw
  have h0_0:=rd2 av h0_0
  have h1_0:=rd2 av h1_0
  have h1_1:=rd2 av h1_1
  refine Bp (cs:=[(.slice none 0 0),(.slice none 0 0)]) Tryz.zeroValue36 m f Z Z fun aD w a m f=>AG 0 0 (ds:=[ax,az]) m Tryz.sizeOf36 f Z Z Z (Av (Ow.one1 1 m aB Z) (Av (Ow.one1 2 m aC Z) AS)) Z (Nat.le_of_ble_eq_true Z) Z fun w m=>Aa ?_
  obtain⟨aE,aF,hd⟩:=bind_some hd
  refine Aj ?_
  have m:=m.front 3 rfl
  have m:=m.eraseAt 5
  have m:Mem W ar w (Itm.box ac 36 [(.slice none 0 0),(.slice none 0 0)]::Itm.box aD 36 [ax,az]::ay::aA::H):=m.eraseAt 4
  refine AC (fun aG a w=>∃aH:List (List Int),∃aI:List (List Int),(aH,aI)=aG∧∃(aJ:GH) (aK:Value) (aL:Itm) (aM:Value) (aN:Itm),GLe ar aJ∧Fr a 28 [(4,(.pointer (some ⟨ac,0,none⟩))),(6,(.pointer (some ⟨aD,0,none⟩)))]∧Mem W aJ w (Itm.box ac 36 [(.slice none 0 0),(.slice none 0 0)]::Itm.box aD 36 [aK,aM]::aL::aN::H)∧Ow (RSl (RI .i64)) 31 aJ aL aK aH∧Ow (RSl (RI .i64)) 31 aJ aN aM aI) aF ⟨_,_,Z,_,ax,ay,az,aA,gr,f.k Z,m,aB,aC⟩ ?_
  clear aF f m
  rintro aG aO aP aQ a w ⟨aH,aI,rfl,aJ,aK,aL,aM,aN,aR,f,m,aS,aT⟩
  refine Aj (Ac ?_)
  refine AE 1 0 (ds:=[aK,aM]) m BG f Z Z Z Z Z fun a f=> ?_
  obtain⟨aU,aV,aP⟩:=bind_some aP
  refine AK f Z Tryz.call98 (Ow.lendCall (RSl.mono (RI.mono _)) 2 aS m Z (fun aW aX m aY=>(Ow.lendCall (RSl.mono (RI.mono _)) 2 (Ow.mono (RSl.mono (RI.mono _)) aX aT) m Z (fun aZ a0 m a1=>Wk.g0 m (rd2 a0 aY) a1 aV) (fun _ _ _ _ h=>h))) (fun _ _ _ _ h=>h)) fun a2 a3 a4 w a5 m a6 a f=> ?_
  obtain⟨rfl,rfl⟩:=a6
  have aS:=Ow.mono (RSl.mono (RI.mono _)) a5 aS
  have aT:=Ow.mono (RSl.mono (RI.mono _)) a5 aT
  refine Ab f Z fun a f=>l_o f (A9 (f.eval Z) Z) fun a f=>l_o f (A9 (f.eval Z) Z) fun a f=>Ad f Z fun a f=>Ad f Z fun a f=>Aa (Af (Ac ?_))
  refine Ab f Z fun a f=>Ai f Z Z AA fun a f=>Aa ?_
  rcases Ae aP with⟨a7,aP⟩|⟨a7,aP⟩
  ·refine Ak f Z a7 ?_
   refine Ac ?_
   refine AE 1 0 (ds:=[aK,aM]) m BG f Z Z Z Z Z fun a f=>AG 0 0 (ds:=[aK,aM]) m Tryz.sizeOf36 f Z Z Z (Av (Ow.one1 2 m aS Z) (Av (Ow.one1 3 m aT Z) AS)) Z (Nat.le_of_ble_eq_true Z) Z fun w m=>Ad f Z fun a f=>Aa ?_
   refine Ao ?_
   have a8:=Ci (P:=Tryz.prog) 0 m BG f (s:=4) rfl rfl rfl
   have m:=m.front 3 rfl
   have m:=m.front 3 rfl
   have m:Mem W a3 w (aL::aN::Itm.box ac 36 [aK,aM]::H):=m.eraseAt 3
   have m:=m.eraseAt 2
   obtain rfl:=sj aP
   obtain rfl:=aQ _ rfl
   obtain rfl:=sj hd
   exact⟨[(.agg #[aK,aM]),(.bool true)],⟨a8,f.get _ _ Z,trivial⟩,f.defers,_,[aL,aN],(gt ag (gt av (gt aR a5))),m,_,_,_,_,Z,Z,aS,aT⟩
  ·refine Ag f Z a7 ?_
   refine Al ?_
   refine Ah ?_
   refine AE 1 0 (ds:=[aK,aM]) m BG f Z Z Z Z Z fun a f=>Ab f Z fun a f=>Ab f Z fun a f=> ?_
   have m:Mem W a3 w (aL::Itm.box ac 36 [(.slice none 0 0),(.slice none 0 0)]::Itm.box aD 36 [aK,aM]::aN::H):=m.front 2 rfl
   obtain⟨a9,ba,m,bb⟩:=Ow.stamp (RSl.mono (RI.mono _)) aS m
   have aT:=Ow.mono (RSl.mono (RI.mono _)) ba aT
   have m:Mem W a9 w (aN::Itm.box ac 36 [(.slice none 0 0),(.slice none 0 0)]::Itm.box aD 36 [aK,aM]::H):=m.front 2 rfl
   obtain⟨bc,bd,m,be⟩:=Ow.stamp (RSl.mono (RI.mono _)) aT m
   have bb:=rd2 bd bb
   obtain⟨bf,bg,aP⟩:=bind_some aP
   refine AK f Z Tryz.call99 (Wk.Q m bb be bg) fun bh bi bj w bk m bl a f=> ?_
   obtain⟨bm,bn,bo,bp,rfl,rfl,bq,br⟩:=bl
   have bb:=rd2 bk bb
   have be:=rd2 bk be
   refine AG 3 0 (ds:=[bm,bo]) m Tryz.sizeOf36 f Z Z Z (Av (Ow.one1 0 m bq Z) (Av (Ow.one1 1 m br Z) AS)) Z (Nat.le_of_ble_eq_true Z) Z fun w m=>Aa ?_
   have m:=m.front 3 rfl
   have m:Mem W bi w (Itm.box ac 36 [(.slice none 0 0),(.slice none 0 0)]::Itm.box aD 36 [bm,bo]::bn::bp::H):=m.front 3 rfl
   obtain rfl:=sj aP
   exact⟨_,Z,_,_,Z,_,bm,bn,bo,bp,(gt aR (gt a5 (gt ba (gt bd bk)))),f.k Z,m,bq,br⟩
theorem Wk.j0 {W w:World}{G:GH}{H:List Itm}{v0_0:Value}{x0_0:(List (List Int))}(m:Mem W G w (H))(h0_0:RSl (RSl (RI .i64)) G v0_0 x0_0){y:((List (List Int)))×((List (List Int)))×Bool}(hd:D.j0 x0_0=some y):
  Calls Tryz.prog 22 #[(.agg #[v0_0])] w (Res W G H (fun G' Ho v=>∃r0:Value,∃i0:Itm,∃r2:Value,∃i2:Itm,Ho=[i0,i2]∧v= .tuple #[(.agg #[r0,r2]),(.bool y.2.2)]∧Ow (RSl (RI .i64)) 31 G' i0 r0 y.1∧Ow (RSl (RI .i64)) 31 G' i2 r2 y.2.1)):=by
 refine Aq (args:=[(.agg #[v0_0])]) (N:=22) [.cell 2 36,.tmp 3] Tryz.func22 Z Z (Nat.le_of_ble_eq_true Z) Z fun a f=> ?_
 unfold D.j0 at hd
 refine Ac ?_
 refine Bm (cs:=[v0_0]) m f Z Z Z fun aa w a m f=>Bp (cs:=[(.slice none 0 0),(.slice none 0 0)]) Tryz.zeroValue36 m f Z Z fun ab w a m f=>Ad f Z fun a f=>Aa (Af (Ac ?_))
 refine AE 1 0 (ds:=[v0_0]) m Bo f Z Z Z Z Z fun a f=> ?_
 obtain⟨ac,ad,hd⟩:=bind_some hd
 refine Bc f Z Tryz.call40 (Wk.c0 m h0_0 ad) fun ae w af m a f=> ?_
 have h0_0:=rd2 af h0_0
 refine l_o f (Bs (f.eval Z)) fun a f=>Aa ?_
 rcases Ae hd with⟨ag,hd⟩|⟨ag,hd⟩
 ·refine Ak f Z ag ?_
  refine Ac ?_
  have ah:∀w,(Instr.build 36 #[]).run Tryz.prog w= .ok (.agg #[(.slice none 0 0),(.slice none 0 0)]) w:=by intro w;simp[Instr.build,Instr.fill,Ct,Cg,B3,B5,BQ,Ch]
  refine CL f Z Z ah fun a f=>AG 0 0 (ds:=[(.slice none 0 0),(.slice none 0 0)]) m Tryz.sizeOf36 f Z Z Z (Av Z (Av Z AS)) Z (Nat.le_of_ble_eq_true Z) Z fun w m=>Ad f Z fun a f=>Aa ?_
  refine Ao ?_
  obtain⟨ai,m,aj⟩:=Ow.nil (RSl (RI .i64)) 31 m
  obtain⟨ak,m,al⟩:=Ow.nil (RSl (RI .i64)) 31 m
  have am:=Ci (P:=Tryz.prog) 2 m BG f (s:=2) rfl rfl rfl
  have m:=m.front 1 rfl
  have m:=m.eraseAt 3
  have m:=m.eraseAt 2
  obtain rfl:=sj hd
  exact⟨[(.agg #[(.slice none 0 0),(.slice none 0 0)]),(.bool false)],⟨am,f.get _ _ Z,trivial⟩,f.defers,_,[ai,ak],af,m,_,_,_,_,Z,Z,aj,al⟩
 ·refine Ag f Z ag ?_
  refine Al ?_
  refine Af ?_
  obtain⟨an,ao,hd⟩:=bind_some hd
  refine AF (fun a w=>∃ap:List (List Int),∃aq:List (List Int),(ap,aq)=an∧∃(ar:GH) (au:Nat) (av:Value) (aw:Itm) (ax:Value) (ay:Itm),GLe ae ar∧Fr a 22 [(1,(.pointer (some ⟨aa,0,none⟩))),(2,(.pointer (some ⟨ab,0,none⟩))),(4,(.pointer (some ⟨au,0,none⟩)))]∧Mem W ar w (Itm.box aa 29 [v0_0]::Itm.box ab 36 [(.slice none 0 0),(.slice none 0 0)]::Itm.box au 36 [av,ax]::aw::ay::H)∧Ow (RSl (RI .i64)) 31 ar aw av ap∧Ow (RSl (RI .i64)) 31 ar ay ax aq) ?_ ?_
  ·refine AY 9 AI (by kernel_rfl) m ?_
   refine B6 (i:=0) (ds:=[v0_0]) 9 1 Bo Z Z Z Z (by kernel_rfl) Z f Z Z Z fun a f=>B6 (i:=1) (ds:=[v0_0]) 9 1 Bo Z Z Z Z (by kernel_rfl) Z f Z Z Z fun a f=>q_two (i:=2) (j:=7) (l1:= #[true,true,true,false,false,false,false,false,false,false]) (l2:= #[true,true,false,false,false,false,false,true,false,false]) Z Z (by kernel_rfl) Z Z ?_ ?_
   ·intro az w aA m aB aB
    have h0_0:=rd2 aA h0_0
    obtain⟨aC,aD,ao⟩:=bind_some ao
    refine AK f Z Tryz.call14 (Wk.q0 m h0_0 aD) fun aE aF aG w aH m aI a f=> ?_
    obtain⟨aJ,aK,rfl,rfl,aL⟩:=aI
    have h0_0:=rd2 aH h0_0
    refine Aa ?_
    refine aB aF [aK] _ _ aH m ?_
    refine q_two (i:=3) (j:=7) (l1:= #[true,true,true,true,false,false,false,false,false,false]) (l2:= #[true,true,true,false,false,false,false,true,false,false]) Z Z (by kernel_rfl) Z Z ?_ ?_
    ·intro aM w aN m aO aO
     have h0_0:=rd2 aN h0_0
     have aL:=od1 aN aL
     obtain⟨aP,aQ,m,aR⟩:=Ow.stamp (RI.mono _) aL m
     have h0_0:=rd2 aQ h0_0
     obtain⟨aS,aT,ao⟩:=bind_some ao
     refine AK f Z Tryz.call60 (Wk.H m h0_0 aR aT) fun aU aV aW w aX m aY a f=> ?_
     obtain⟨aZ,a0,a1,a2,rfl,rfl,a3,a4⟩:=aY
     have h0_0:=rd2 aX h0_0
     have aR:=rd1 aX aR
     refine Aa ?_
     refine aO aV [a0,a2] _ _ (gt aQ aX) m ?_
     refine Am 4 9 Z f Z fun a f=>q_p 5 9 Z f (fun _=>A9 (f.eval Z) Z) fun a f=>q_p 6 9 Z f (fun _=>A9 (f.eval Z) Z) fun a f=>Br (i:=7) Z (by kernel_rfl) Z fun a5 w a6 m a7 a7=> ?_
     have h0_0:=rd2 a6 h0_0
     have aR:=rd1 a6 aR
     have a3:=Ow.mono (RSl.mono (RI.mono _)) a6 a3
     have a4:=Ow.mono (RSl.mono (RI.mono _)) a6 a4
     refine Bp (cs:=[(.slice none 0 0),(.slice none 0 0)]) Tryz.zeroValue36 m f Z Z fun a8 w a m f=>Aa ?_
     refine a7 a5 [Itm.box a8 36 [(.slice none 0 0),(.slice none 0 0)],a0,a2] _ _ gr m ?_
     refine Br (i:=8) Z (by kernel_rfl) Z fun a9 w ba m bb bb=> ?_
     have h0_0:=rd2 ba h0_0
     have aR:=rd1 ba aR
     have a3:=Ow.mono (RSl.mono (RI.mono _)) ba a3
     have a4:=Ow.mono (RSl.mono (RI.mono _)) ba a4
     refine AG 0 0 (ds:=[aZ,a1]) m Tryz.sizeOf36 f Z Z Z (Av (Ow.one1 1 m a3 Z) (Av (Ow.one1 2 m a4 Z) AS)) Z (Nat.le_of_ble_eq_true Z) Z fun w m=>Aa ?_
     refine bb a9 [Itm.box a8 36 [aZ,a1],a0,a2] _ _ gr m ?_
     refine AU fun bc w bd m=> ?_
     have h0_0:=rd2 bd h0_0
     have aR:=rd1 bd aR
     have a3:=Ow.mono (RSl.mono (RI.mono _)) bd a3
     have a4:=Ow.mono (RSl.mono (RI.mono _)) bd a4
     refine Ad f Z fun a f=>Aa ?_
     have m:=m.front 3 rfl
     have m:Mem W bc w (Itm.box aa 29 [v0_0]::Itm.box ab 36 [(.slice none 0 0),(.slice none 0 0)]::Itm.box a8 36 [aZ,a1]::a0::a2::H):=m.front 4 rfl
     obtain rfl:=sj ao
     exact⟨_,_,Z,_,a8,aZ,a0,a1,a2,(gt aA (gt aH (gt aN (gt aQ (gt aX (gt a6 (gt ba bd))))))),f.k Z,m,a3,a4⟩
    ·intro a5 w a6 m a7 a7
     obtain⟨aS,aT,ao⟩:=bind_some ao
     have h0_0:=rd2 a6 h0_0
     have aL:=od1 a6 aL
     refine Bp (cs:=[(.slice none 0 0),(.slice none 0 0)]) Tryz.zeroValue36 m f Z Z fun a8 w a m f=>Aa ?_
     refine a7 a5 [Itm.box a8 36 [(.slice none 0 0),(.slice none 0 0)],aK] _ _ gr m ?_
     refine Br (i:=3) Z (by kernel_rfl) Z fun aM w aN m aO aO=> ?_
     have h0_0:=rd2 aN h0_0
     have aL:=od1 aN aL
     have m:Mem W aM w (aK::Itm.box a8 36 [(.slice none 0 0),(.slice none 0 0)]::Itm.box ab 36 [(.slice none 0 0),(.slice none 0 0)]::Itm.box aa 29 [v0_0]::H):=m.front 1 rfl
     obtain⟨aP,aQ,m,aR⟩:=Ow.stamp (RI.mono _) aL m
     have h0_0:=rd2 aQ h0_0
     refine AK f Z Tryz.call60 (Wk.H m h0_0 aR aT) fun aU aV aW w aX m aY a f=> ?_
     obtain⟨aZ,a0,a1,a2,rfl,rfl,a3,a4⟩:=aY
     have h0_0:=rd2 aX h0_0
     have aR:=rd1 aX aR
     refine Aa ?_
     refine aO aV [a0,a2,Itm.box a8 36 [(.slice none 0 0),(.slice none 0 0)]] _ _ (gt aQ aX) m ?_
     refine Am 4 9 Z f Z fun a f=>q_p 5 9 Z f (fun _=>A9 (f.eval Z) Z) fun a f=>q_p 6 9 Z f (fun _=>A9 (f.eval Z) Z) fun a f=>Br (i:=8) Z (by kernel_rfl) Z fun a9 w ba m bb bb=> ?_
     have h0_0:=rd2 ba h0_0
     have aR:=rd1 ba aR
     have a3:=Ow.mono (RSl.mono (RI.mono _)) ba a3
     have a4:=Ow.mono (RSl.mono (RI.mono _)) ba a4
     refine AG 2 0 (ds:=[aZ,a1]) m Tryz.sizeOf36 f Z Z Z (Av (Ow.one1 0 m a3 Z) (Av (Ow.one1 1 m a4 Z) AS)) Z (Nat.le_of_ble_eq_true Z) Z fun w m=>Aa ?_
     refine bb a9 [a0,a2,Itm.box a8 36 [aZ,a1]] _ _ gr m ?_
     refine AU fun bc w bd m=> ?_
     have h0_0:=rd2 bd h0_0
     have aR:=rd1 bd aR
     have a3:=Ow.mono (RSl.mono (RI.mono _)) bd a3
     have a4:=Ow.mono (RSl.mono (RI.mono _)) bd a4
     refine Ad f Z fun a f=>Aa ?_
     have m:=m.front 2 rfl
     have m:=m.front 3 rfl
     have m:Mem W bc w (Itm.box aa 29 [v0_0]::Itm.box ab 36 [(.slice none 0 0),(.slice none 0 0)]::Itm.box a8 36 [aZ,a1]::a0::a2::H):=m.front 4 rfl
     obtain rfl:=sj ao
     exact⟨_,_,Z,_,a8,aZ,a0,a1,a2,(gt aA (gt aH (gt a6 (gt aN (gt aQ (gt aX (gt ba bd))))))),f.k Z,m,a3,a4⟩
   ·intro a5 w a6 m a7 a7
    obtain⟨aC,aD,ao⟩:=bind_some ao
    obtain⟨aS,aT,ao⟩:=bind_some ao
    have h0_0:=rd2 a6 h0_0
    refine Bp (cs:=[(.slice none 0 0),(.slice none 0 0)]) Tryz.zeroValue36 m f Z Z fun a8 w a m f=>Aa ?_
    refine a7 a5 [Itm.box a8 36 [(.slice none 0 0),(.slice none 0 0)]] _ _ gr m ?_
    refine Br (i:=2) Z (by kernel_rfl) Z fun az w aA m aB aB=> ?_
    have h0_0:=rd2 aA h0_0
    refine AK f Z Tryz.call14 (Wk.q0 m h0_0 aD) fun aE aF aG w aH m aI a f=> ?_
    obtain⟨aJ,aK,rfl,rfl,aL⟩:=aI
    have h0_0:=rd2 aH h0_0
    refine Aa ?_
    refine aB aF [aK,Itm.box a8 36 [(.slice none 0 0),(.slice none 0 0)]] _ _ aH m ?_
    refine Br (i:=3) Z (by kernel_rfl) Z fun aM w aN m aO aO=> ?_
    have h0_0:=rd2 aN h0_0
    have aL:=od1 aN aL
    obtain⟨aP,aQ,m,aR⟩:=Ow.stamp (RI.mono _) aL m
    have h0_0:=rd2 aQ h0_0
    refine AK f Z Tryz.call60 (Wk.H m h0_0 aR aT) fun aU aV aW w aX m aY a f=> ?_
    obtain⟨aZ,a0,a1,a2,rfl,rfl,a3,a4⟩:=aY
    have h0_0:=rd2 aX h0_0
    have aR:=rd1 aX aR
    refine Aa ?_
    refine aO aV [a0,a2,Itm.box a8 36 [(.slice none 0 0),(.slice none 0 0)]] _ _ (gt aQ aX) m ?_
    refine Am 4 9 Z f Z fun a f=>q_p 5 9 Z f (fun _=>A9 (f.eval Z) Z) fun a f=>q_p 6 9 Z f (fun _=>A9 (f.eval Z) Z) fun a f=>Br (i:=8) Z (by kernel_rfl) Z fun a9 w ba m bb bb=> ?_
    have h0_0:=rd2 ba h0_0
    have aR:=rd1 ba aR
    have a3:=Ow.mono (RSl.mono (RI.mono _)) ba a3
    have a4:=Ow.mono (RSl.mono (RI.mono _)) ba a4
    refine AG 2 0 (ds:=[aZ,a1]) m Tryz.sizeOf36 f Z Z Z (Av (Ow.one1 0 m a3 Z) (Av (Ow.one1 1 m a4 Z) AS)) Z (Nat.le_of_ble_eq_true Z) Z fun w m=>Aa ?_
    refine bb a9 [a0,a2,Itm.box a8 36 [aZ,a1]] _ _ gr m ?_
    refine AU fun bc w bd m=> ?_
    have h0_0:=rd2 bd h0_0
    have aR:=rd1 bd aR
    have a3:=Ow.mono (RSl.mono (RI.mono _)) bd a3
    have a4:=Ow.mono (RSl.mono (RI.mono _)) bd a4
    refine Ad f Z fun a f=>Aa ?_
    have m:=m.front 2 rfl
    have m:=m.front 3 rfl
    have m:Mem W bc w (Itm.box aa 29 [v0_0]::Itm.box ab 36 [(.slice none 0 0),(.slice none 0 0)]::Itm.box a8 36 [aZ,a1]::a0::a2::H):=m.front 4 rfl
    obtain rfl:=sj ao
    exact⟨_,_,Z,_,a8,aZ,a0,a1,a2,(gt a6 (gt aA (gt aH (gt aN (gt aQ (gt aX (gt ba bd))))))),f.k Z,m,a3,a4⟩
  ·rintro a w ⟨ap,aq,rfl,ar,au,av,aw,ax,ay,be,f,m,bf,bg⟩
   have h0_0:=rd2 be h0_0
   refine Ac ?_
   refine AE 0 0 (ds:=[v0_0]) m Bo f Z Z Z Z Z fun a f=>AE 2 0 (ds:=[av,ax]) m BG f Z Z Z Z Z fun a f=> ?_
   have m:Mem W ar w (aw::Itm.box aa 29 [v0_0]::Itm.box ab 36 [(.slice none 0 0),(.slice none 0 0)]::Itm.box au 36 [av,ax]::ay::H):=m.front 3 rfl
   obtain⟨bh,bi,m,bj⟩:=Ow.stamp (RSl.mono (RI.mono _)) bf m
   have h0_0:=rd2 bi h0_0
   have bg:=Ow.mono (RSl.mono (RI.mono _)) bi bg
   have m:Mem W bh w (ay::Itm.box aa 29 [v0_0]::Itm.box ab 36 [(.slice none 0 0),(.slice none 0 0)]::Itm.box au 36 [av,ax]::H):=m.front 3 rfl
   obtain⟨bk,bl,m,bm⟩:=Ow.stamp (RSl.mono (RI.mono _)) bg m
   have h0_0:=rd2 bl h0_0
   have bj:=rd2 bl bj
   obtain⟨bn,bo,hd⟩:=bind_some hd
   refine AK f Z Tryz.call61 (Wk.D0 m h0_0 bj bm bo) fun bp bq br w bs m bt a f=> ?_
   obtain⟨bu,bv,bw,bx,rfl,rfl,bz,bA⟩:=bt
   have h0_0:=rd2 bs h0_0
   have bj:=rd2 bs bj
   have bm:=rd2 bs bm
   refine l_o f (A9 (f.eval Z) Z) fun a f=>l_o f (A9 (f.eval Z) Z) fun a f=>AG 3 0 (ds:=[bu,bw]) m Tryz.sizeOf36 f Z Z Z (Av (Ow.one1 0 m bz Z) (Av (Ow.one1 1 m bA Z) AS)) Z (Nat.le_of_ble_eq_true Z) Z fun w m=>Ad f Z fun a f=>Aa ?_
   refine Ao ?_
   have bB:=Ci (P:=Tryz.prog) 3 m BG f (s:=2) rfl rfl rfl
   have m:=m.eraseAt 4
   have m:=m.eraseAt 3
   have m:=m.eraseAt 2
   obtain rfl:=sj hd
   exact⟨[(.agg #[bu,bw]),(.bool bn.2.2)],⟨bB,f.get _ _ Z,trivial⟩,f.defers,_,[bv,bx],(gt af (gt be (gt bi (gt bl bs)))),m,_,_,_,_,Z,Z,bz,bA⟩
theorem Wk.h1 {W w:World}{G:GH}{H:List Itm}{x0:Int}{x1:Int}{x2:Int}(m:Mem W G w (H)){y:Bool}(hd:D.h1 x0 x1 x2=some y):
  Calls Tryz.prog 123 #[(.int .i64 x0),(.int .i64 x1),(.int .i64 x2)] w (Res W G H (fun _ Ho v=>Ho=[]∧v=(.bool y))):=by
 refine Aq (args:=[(.int .i64 x0),(.int .i64 x1),(.int .i64 x2)]) (N:=15) [.tmp 6] Tryz.func123 Z Z (Nat.le_of_ble_eq_true Z) Z fun a f=> ?_
 unfold D.h1 at hd
 refine Ac ?_
 refine Ad f Z fun a f=>Aa (Ac ?_)
 refine Ab f Z fun a f=>Ab f Z fun a f=>Ai f Z Z CK fun a f=>Ab f Z fun a f=> ?_
 refine BA 4 (fun a w=>∃aa,GLe G aa∧Mem W aa w (H)∧Fr a 15 [(0,(.int .i64 x0)),(1,(.int .i64 x1)),(2,(.int .i64 x2)),(7,(.int .i64 x1)),(8,(.int .i64 x0)),(9,(.bool (decide (x1≤x0)))),(10,(.bool (decide (x1≤x0)))),(14,(.bool ((decide (x1≤x0))&&(decide (x0≤x2)))))]) ?_ ?_
 ·rcases Bool.eq_false_or_eq_true (decide (x1≤x0)) with ab|ab
  ·refine Az f ab ?_
   refine Ab f Z fun a f=>Az f ab ?_
   refine Ab f Z fun a f=>Az f ab ?_
   refine Ai f Z Z CK fun a f=>l_o f (A3 (f.eval Z) ab (f.eval Z)) fun a f=> ?_
   exact⟨_,gr,m,f.weak ⟨Z,Z,Z,Z,Z,Z,Z,by rw[ab];rfl,trivial⟩⟩
  ·refine AB f ab fun a f=> ?_
   refine AB f ab fun a f=>AB f ab fun a f=>l_o f (A2 (f.eval Z) ab (f.eval Z)) fun a f=> ?_
   exact⟨_,gr,m,f.weak ⟨Z,Z,Z,Z,Z,Z,Z,by rw[ab];rfl,trivial⟩⟩
 ·rintro a w ⟨aa,ac,m,f⟩
  refine Ad f Z fun a f=>Aa ?_
  refine Ao ?_
  obtain rfl:=sj hd
  exact⟨[(.bool ((decide (x1≤x0))&&(decide (x0≤x2))))],⟨f.get _ _ Z,trivial⟩,f.defers,_,[],ac,m,Z,Z⟩
theorem Wk.l0 {W w:World}{G:GH}{H:List Itm}{v0:Value}{x0:(List Int)}{x1:Int}(m:Mem W G w (H))(h0:RSl (RI .i64) G v0 x0){y:Bool}(hd:D.l0 x0 x1=some y):
  Calls Tryz.prog 104 #[v0,(.int .i64 x1)] w (Res W G H (fun _ Ho v=>Ho=[]∧v=(.bool y))):=by
 refine Aq (args:=[v0,(.int .i64 x1)]) (N:=33) [.tmp 4] Tryz.func104 Z Z (Nat.le_of_ble_eq_true Z) Z fun a f=> ?_
 unfold D.l0 at hd
 refine Ac ?_
 refine Ad f Z fun a f=>Aa (Af (Ac ?_))
 refine Ab f Z fun a f=>AT Tryz.underlying31 f Z Z h0 fun a f=>Ab f Z fun a f=>Aa ?_
 obtain⟨aa,ab,hd⟩:=bind_some hd
 refine AF (fun a w=>∃q_181':Unit,aa= .inl q_181'∧∃(ac:GH),GLe G ac∧Fr a 33 []∧Mem W ac w (H)) ?_ ?_
 ·refine Aj ?_
  refine AC (fun ad a w=>∃ae:Int,ae=ad∧∃(af:GH),GLe G af∧Fr a 33 [(0,v0),(1,(.int .i64 x1)),(7,v0),(8,(.int .i64 (x0.length:Int))),(9,(.int .i64 ae))]∧Mem W af w (H)) ab ⟨_,Z,_,gr,f.k Z,m⟩ ?_
  clear ab f m
  rintro ad ag ah ai a w ⟨ae,rfl,af,aj,f,m⟩
  have h0:=rd1 aj h0
  refine Ac ?_
  refine Ai f Z Z AA fun a f=>Aa (Af ?_)
  rcases Ae ah with⟨ak,ah⟩|⟨ak,ah⟩
  ·refine Ak f Z ak ?_
   refine Al ?_
   refine Af (Aj (Ac ?_))
   refine Ab f Z fun a f=> ?_
   obtain⟨al,am,ah⟩:=bind_some ah
   refine AZ T31 f Z Z Z h0 am fun an ao a ap aq f=> ?_
   subst aq
   refine Au m Pl2 f Z Z ap fun a f=>Ad f Z fun a f=>Ad f Z fun a f=>Aa (Ac ?_)
   refine Ab f Z fun a f=>Ab f Z fun a f=>Ai f Z Z A8 fun a f=> ?_
   obtain⟨ar,au,ah⟩:=bind_some ah
   refine Bc f Z Tryz.call123 (Wk.h1 m au) fun av w aw m a f=> ?_
   have h0:=rd1 aw h0
   refine l_o f (Bs (f.eval Z)) fun a f=>Ab f Z fun a f=> ?_
   obtain⟨ax,ay,ah⟩:=bind_some ah
   refine BA 12 (fun a w=>∃az,GLe av az∧Mem W az w (H)∧Fr a 33 [(0,v0),(1,(.int .i64 x1)),(5,(.int .i64 ae)),(6,(.int .i64 al)),(7,v0),(8,(.int .i64 (x0.length:Int))),(9,(.int .i64 ae)),(14,(.int .i64 al)),(15,(.int .i64 x1)),(16,(.int .i64 (IntKind.i64.wrap (x1-1)))),(17,(.bool ar)),(18,(.bool (!ar))),(19,(.bool (!ar))),(31,(.bool ax))]) ?_ ?_
   ·rcases Ae ay with⟨aA,ay⟩|⟨aA,ay⟩
    ·refine AB f aA fun a f=> ?_
     refine AB f aA fun a f=>AB f aA fun a f=>Ef f Z Z Z fun a f=>Ef f Z Z Z fun a f=>Ef f Z Z Z fun a f=>Ef f Z Z Z fun a f=>Ef f Z Z Z fun a f=>Ef f Z Z Z fun a f=>Ef f Z Z Z fun a f=>AB f aA fun a f=>l_o f (A3 (f.eval Z) aA (f.eval Z)) fun a f=> ?_
     obtain rfl:=sj ay
     exact⟨_,gr,m,f.k Z⟩
    ·refine Az f aA ?_
     refine Ab f Z fun a f=>Az f aA ?_
     refine Ai f Z Z Cr fun a f=>Az f aA ?_
     refine Ab f Z fun a f=> ?_
     obtain⟨aB,aC,ay⟩:=bind_some ay
     refine BA 8 (fun a w=>∃aD,GLe av aD∧Mem W aD w (H)∧Fr a 33 [(0,v0),(1,(.int .i64 x1)),(5,(.int .i64 ae)),(6,(.int .i64 al)),(7,v0),(8,(.int .i64 (x0.length:Int))),(9,(.int .i64 ae)),(14,(.int .i64 al)),(15,(.int .i64 x1)),(16,(.int .i64 (IntKind.i64.wrap (x1-1)))),(17,(.bool ar)),(18,(.bool (!ar))),(19,(.bool (!ar))),(20,(.int .i64 ae)),(21,(.bool (decide ((0:Int)<ae)))),(22,(.bool (decide ((0:Int)<ae)))),(30,(.bool aB))]) ?_ ?_
     ·rcases Ae aC with⟨aE,aC⟩|⟨aE,aC⟩
      ·refine Az f aE ?_
       refine Ab f Z fun a f=>Az f aE ?_
       refine Ab f Z fun a f=>Az f aE ?_
       refine Ai f Z Z A8 fun a f=>Az f aE ?_
       obtain⟨aF,aG,aC⟩:=bind_some aC
       refine AZ T31 f Z Z Z h0 aG fun aH aI a aJ aK f=> ?_
       subst aK
       refine Az f aE ?_
       refine Au m Pl2 f Z Z aJ fun a f=>Az f aE ?_
       refine Ab f Z fun a f=>Az f aE ?_
       refine Ai f Z Z Cz fun a f=>Az f aA ?_
       refine l_o f (A3 (f.eval Z) aE (f.eval Z)) fun a f=> ?_
       obtain rfl:=sj aC
       exact⟨_,gr,m,f.k Z⟩
      ·refine AB f aE fun a f=> ?_
       refine AB f aE fun a f=>AB f aE fun a f=>AB f aE fun a f=>AB f aE fun a f=>AB f aE fun a f=>AB f aE fun a f=>Az f aA ?_
       refine l_o f (A2 (f.eval Z) aE (f.eval Z)) fun a f=> ?_
       obtain rfl:=sj aC
       exact⟨_,gr,m,f.k Z⟩
     ·rintro a w ⟨aD,aL,m,f⟩
      have h0:=rd1 aL h0
      refine l_o f (A2 (f.eval Z) aA (f.eval Z)) fun a f=> ?_
      obtain rfl:=sj ay
      exact⟨_,aL,m,f.k Z⟩
   ·rintro a w ⟨az,aM,m,f⟩
    have h0:=rd1 aM h0
    refine Aa ?_
    rcases Ae ah with⟨aN,ah⟩|⟨aN,ah⟩
    ·refine Ak f Z aN ?_
     refine Ac ?_
     refine Ad f Z fun a f=>Aa ?_
     refine Ao ?_
     obtain rfl:=sj ah
     obtain rfl:=ai _ rfl
     obtain rfl:=sj hd
     exact⟨[(.bool false)],⟨f.get _ _ Z,trivial⟩,f.defers,_,[],(gt aj (gt aw aM)),m,Z,Z⟩
    ·refine Ag f Z aN ?_
     refine Al ?_
     refine Ah ?_
     refine Ai f Z Z As fun a f=>Ab f Z fun a f=>Aa ?_
     obtain rfl:=sj ah
     exact⟨_,Z,_,Z,_,(gt aj (gt aw aM)),f.k Z,m⟩
  ·refine Ag f Z ak ?_
   refine Aw Z ?_
   obtain rfl:=sj ah
   obtain rfl:=ai _ rfl
   exact⟨_,Z,_,aj,f.weak trivial,m⟩
 ·rintro a w ⟨_,rfl,ac,aO,f,m⟩
  refine Ac ?_
  refine Ad f Z fun a f=>Aa ?_
  refine Ao ?_
  obtain rfl:=sj hd
  exact⟨[(.bool true)],⟨f.get _ _ Z,trivial⟩,f.defers,_,[],aO,m,Z,Z⟩
theorem Wk.e0 {W w:World}{G:GH}{H:List Itm}{v0_0:Value}{x0_0:(List (List Int))}(m:Mem W G w (H))(h0_0:RSl (RSl (RI .i64)) G v0_0 x0_0){y:Bool}(hd:D.e0 x0_0=some y):
  Calls Tryz.prog 69 #[(.agg #[v0_0])] w (Res W G H (fun _ Ho v=>Ho=[]∧v=(.bool y))):=by
 refine Aq (args:=[(.agg #[v0_0])]) (N:=61) [.tmp 2] Tryz.func69 Z Z (Nat.le_of_ble_eq_true Z) Z fun a f=> ?_
 unfold D.e0 at hd
 refine Ac ?_
 refine Bm (cs:=[v0_0]) m f Z Z Z fun aa w a m f=>Ad f Z fun a f=>Aa (Ac ?_)
 refine Bk Tryz.underlying29 Z Tryz.sizeOf27 f Z fun a f=>Ay 0 0 m AX f Z Z Z Z fun a f=>AT Tryz.underlying27 f Z Z h0_0 fun a f=>Ad f Z fun a f=>Aa (Af (Ac ?_))
 refine Ab f Z fun a f=>Ai f Z Z AA fun a f=>Ab f Z fun a f=> ?_
 refine BA 3 (fun a w=>∃ab,GLe G ab∧Mem W ab w (Itm.box aa 29 [v0_0]::H)∧Fr a 61 [(0,(.agg #[v0_0])),(1,(.pointer (some ⟨aa,0,none⟩))),(3,(.int .i64 (x0_0.length:Int))),(13,(.int .i64 (x0_0.length:Int))),(14,(.bool (decide ((x0_0.length:Int)<1)))),(15,(.bool (decide ((x0_0.length:Int)<1)))),(18,(.bool ((decide ((x0_0.length:Int)<1))||(decide ((16:Int)<(x0_0.length:Int))))))]) ?_ ?_
 ·rcases Bool.eq_false_or_eq_true (decide ((x0_0.length:Int)<1)) with ac|ac
  ·refine AB f ac fun a f=> ?_
   refine AB f ac fun a f=>l_o f (A3 (f.eval Z) ac (f.eval Z)) fun a f=> ?_
   exact⟨_,gr,m,f.weak ⟨Z,Z,Z,Z,Z,Z,by rw[ac];rfl,trivial⟩⟩
  ·refine Az f ac ?_
   refine Ab f Z fun a f=>Az f ac ?_
   refine Ai f Z Z Cr fun a f=>l_o f (A2 (f.eval Z) ac (f.eval Z)) fun a f=> ?_
   exact⟨_,gr,m,f.weak ⟨Z,Z,Z,Z,Z,Z,by rw[ac];rfl,trivial⟩⟩
 ·rintro a w ⟨ab,ad,m,f⟩
  have h0_0:=rd2 ad h0_0
  refine Aa ?_
  rcases Ae hd with⟨ae,hd⟩|⟨ae,hd⟩
  ·refine Ak f Z ae ?_
   refine Ac ?_
   refine Ad f Z fun a f=>Aa ?_
   refine Ao ?_
   have m:Mem W ab w H:=Mem.drop (H':=[Itm.box aa 29 [v0_0]]) m
   obtain rfl:=sj hd
   exact⟨[(.bool false)],⟨f.get _ _ Z,trivial⟩,f.defers,_,[],ad,m,Z,Z⟩
  ·refine Ag f Z ae ?_
   refine Al ?_
   refine Af (Ac ?_)
   refine Bk Tryz.underlying29 Z Tryz.sizeOf27 f Z fun a f=>Ay 0 0 m AX f Z Z Z Z fun a f=>AT Tryz.underlying27 f Z Z h0_0 fun a f=>Ab f Z fun a f=>Aa ?_
   obtain⟨af,ag,hd⟩:=bind_some hd
   refine AF (fun a w=>∃q_91':Unit,af= .inl q_91'∧∃(ah:GH),GLe ab ah∧Fr a 61 [(1,(.pointer (some ⟨aa,0,none⟩)))]∧Mem W ah w (Itm.box aa 29 [v0_0]::H)) ?_ ?_
   ·refine Aj ?_
    refine AC (fun ai a w=>∃aj:Int,aj=ai∧∃(ak:GH),GLe ab ak∧Fr a 61 [(1,(.pointer (some ⟨aa,0,none⟩))),(3,(.int .i64 (x0_0.length:Int))),(20,v0_0),(21,(.int .i64 (x0_0.length:Int))),(22,(.int .i64 aj))]∧Mem W ak w (Itm.box aa 29 [v0_0]::H)) ag ⟨_,Z,_,gr,f.k Z,m⟩ ?_
    clear ag f m
    rintro ai al am an a w ⟨aj,rfl,ak,ao,f,m⟩
    have h0_0:=rd2 ao h0_0
    refine Ac ?_
    refine Ai f Z Z AA fun a f=>Aa (Af ?_)
    rcases Ae am with⟨ap,am⟩|⟨ap,am⟩
    ·refine Ak f Z ap ?_
     refine Al ?_
     refine Af (Aj (Ac ?_))
     refine Ab f Z fun a f=> ?_
     obtain⟨aq,ar,am⟩:=bind_some am
     refine AZ T27 f Z Z Z h0_0 ar fun au av a aw ax f=>Au m AO f Z Z aw fun a f=>Ad f Z fun a f=>Ad f Z fun a f=>Aa (Ac ?_)
     refine Ab f Z fun a f=>Ab f Z fun a f=> ?_
     obtain⟨ay,az,am⟩:=bind_some am
     refine Bc f Z Tryz.call104 (Wk.l0 m ax az) fun aA w aB m a f=> ?_
     have ax:=rd1 aB ax
     have h0_0:=rd2 aB h0_0
     refine l_o f (Bs (f.eval Z)) fun a f=>Ab f Z fun a f=> ?_
     obtain⟨aC,aD,am⟩:=bind_some am
     refine BA 4 (fun a w=>∃aE,GLe aA aE∧Mem W aE w (Itm.box aa 29 [v0_0]::H)∧Fr a 61 [(1,(.pointer (some ⟨aa,0,none⟩))),(3,(.int .i64 (x0_0.length:Int))),(4,(.int .i64 aj)),(5,av),(20,v0_0),(21,(.int .i64 (x0_0.length:Int))),(22,(.int .i64 aj)),(27,av),(28,(.int .i64 (x0_0.length:Int))),(29,(.bool ay)),(30,(.bool (!ay))),(31,(.bool (!ay))),(35,(.bool aC))]) ?_ ?_
     ·rcases Ae aD with⟨aF,aD⟩|⟨aF,aD⟩
      ·refine AB f aF fun a f=> ?_
       refine AB f aF fun a f=>AB f aF fun a f=>l_o f (A3 (f.eval Z) aF (f.eval Z)) fun a f=> ?_
       obtain rfl:=sj aD
       exact⟨_,gr,m,f.k Z⟩
      ·refine Az f aF ?_
       refine Ab f Z fun a f=>Az f aF ?_
       refine Ab f Z fun a f=>Az f aF ?_
       obtain⟨aG,aH,aD⟩:=bind_some aD
       refine Bc f Z Tryz.call105 (Wk.U m ax aH) fun aI w aJ m a f=> ?_
       have ax:=rd1 aJ ax
       have h0_0:=rd2 aJ h0_0
       refine l_o f (A2 (f.eval Z) aF (f.eval Z)) fun a f=> ?_
       obtain rfl:=sj aD
       exact⟨_,aJ,m,f.k Z⟩
     ·rintro a w ⟨aE,aK,m,f⟩
      have ax:=rd1 aK ax
      have h0_0:=rd2 aK h0_0
      refine Aa ?_
      rcases Ae am with⟨aL,am⟩|⟨aL,am⟩
      ·refine Ak f Z aL ?_
       refine Ac ?_
       refine Ad f Z fun a f=>Aa ?_
       refine Ao ?_
       have m:Mem W aE w H:=Mem.drop (H':=[Itm.box aa 29 [v0_0]]) m
       obtain rfl:=sj am
       obtain rfl:=an _ rfl
       obtain rfl:=sj hd
       exact⟨[(.bool false)],⟨f.get _ _ Z,trivial⟩,f.defers,_,[],(gt ad (gt ao (gt aB aK))),m,Z,Z⟩
      ·refine Ag f Z aL ?_
       refine Al ?_
       refine Ah ?_
       refine Ai f Z Z As fun a f=>Ab f Z fun a f=>Aa ?_
       obtain rfl:=sj am
       exact⟨_,Z,_,Z,_,(gt ao (gt aB aK)),f.k Z,m⟩
    ·refine Ag f Z ap ?_
     refine Aw Z ?_
     obtain rfl:=sj am
     obtain rfl:=an _ rfl
     exact⟨_,Z,_,ao,f.k Z,m⟩
   ·rintro a w ⟨_,rfl,ah,aM,f,m⟩
    have h0_0:=rd2 aM h0_0
    refine Af (Ac ?_)
    refine Bk Tryz.underlying29 Z Tryz.sizeOf27 f Z fun a f=>Ay 0 0 m AX f Z Z Z Z fun a f=>AT Tryz.underlying27 f Z Z h0_0 fun a f=>Ab f Z fun a f=>Aa ?_
    obtain⟨aN,aO,hd⟩:=bind_some hd
    refine AF (fun a w=>∃q_394':Unit,aN= .inl q_394'∧∃(aP:GH),GLe ah aP∧Fr a 61 []∧Mem W aP w (H)) ?_ ?_
    ·refine Aj ?_
     refine AC (fun aQ a w=>∃aR:Int,aR=aQ∧∃(aS:GH),GLe ah aS∧Fr a 61 [(1,(.pointer (some ⟨aa,0,none⟩))),(38,v0_0),(39,(.int .i64 (x0_0.length:Int))),(40,(.int .i64 aR))]∧Mem W aS w (Itm.box aa 29 [v0_0]::H)) aO ⟨_,Z,_,gr,f.k Z,m⟩ ?_
     clear aO f m
     rintro aQ aT aU aV a w ⟨aR,rfl,aS,aW,f,m⟩
     have h0_0:=rd2 aW h0_0
     refine Ac ?_
     refine Ai f Z Z AA fun a f=>Aa (Af ?_)
     rcases Ae aU with⟨aX,aU⟩|⟨aX,aU⟩
     ·refine Ak f Z aX ?_
      refine Al ?_
      refine Af (Aj (Ac ?_))
      refine Ab f Z fun a f=> ?_
      obtain⟨aY,aZ,aU⟩:=bind_some aU
      refine AZ T27 f Z Z Z h0_0 aZ fun a0 a1 a a2 a3 f=>Au m AO f Z Z a2 fun a f=>Ad f Z fun a f=>Ad f Z fun a f=>Aa (Ac ?_)
      refine Ab f Z fun a f=>AT Tryz.underlying31 f Z Z a3 fun a f=>Ab f Z fun a f=>Aa ?_
      obtain⟨a4,a5,aU⟩:=bind_some aU
      refine AF (fun a w=>∃q_560':Unit,a4= .inl q_560'∧∃(a6:GH),GLe aS a6∧Fr a 61 [(1,(.pointer (some ⟨aa,0,none⟩))),(38,v0_0),(39,(.int .i64 (x0_0.length:Int))),(40,(.int .i64 aR))]∧Mem W a6 w (Itm.box aa 29 [v0_0]::H)) ?_ ?_
      ·refine Aj ?_
       refine AC (fun a7 a w=>∃a8:Int,a8=a7∧∃(a9:GH),GLe aS a9∧Fr a 61 [(1,(.pointer (some ⟨aa,0,none⟩))),(6,(.int .i64 aR)),(38,v0_0),(39,(.int .i64 (x0_0.length:Int))),(40,(.int .i64 aR)),(45,a1),(46,(.int .i64 (aY.length:Int))),(47,(.int .i64 a8))]∧Mem W a9 w (Itm.box aa 29 [v0_0]::H)) a5 ⟨_,Z,_,gr,f.k Z,m⟩ ?_
       clear a5 f m
       rintro a7 ba bb bc a w ⟨a8,rfl,a9,bd,f,m⟩
       have h0_0:=rd2 bd h0_0
       have a3:=rd1 bd a3
       refine Ac ?_
       refine Ai f Z Z AA fun a f=>Aa (Af ?_)
       rcases Ae bb with⟨be,bb⟩|⟨be,bb⟩
       ·refine Ak f Z be ?_
        refine Al ?_
        refine Af (Aj (Ac ?_))
        obtain⟨bf,bg,bb⟩:=bind_some bb
        refine AZ T31 f Z Z Z a3 bg fun bh bi a bj bk f=> ?_
        subst bk
        refine Au m Pl2 f Z Z bj fun a f=>Ad f Z fun a f=>Aa (Ac ?_)
        refine Bk Tryz.underlying29 Z Tryz.sizeOf27 f Z fun a f=>Ay 0 0 m AX f Z Z Z Z fun a f=>Ab f Z fun a f=> ?_
        obtain⟨bl,bm,bb⟩:=bind_some bb
        refine AZ T27 f Z Z Z h0_0 bm fun bn bo a bp bq f=>Au m AO f Z Z bp fun a f=>Ab f Z fun a f=> ?_
        obtain⟨br,bs,bb⟩:=bind_some bb
        refine Bc f Z Tryz.call105 (Wk.U m bq bs) fun bt w bu m a f=> ?_
        have h0_0:=rd2 bu h0_0
        have a3:=rd1 bu a3
        have bp:=At.mono bu bp
        have bq:=rd1 bu bq
        refine l_o f (Bs (f.eval Z)) fun a f=>Aa ?_
        rcases Ae bb with⟨bv,bb⟩|⟨bv,bb⟩
        ·refine Ak f Z bv ?_
         refine Ac ?_
         refine Ad f Z fun a f=>Aa ?_
         refine Ao ?_
         have m:Mem W bt w H:=Mem.drop (H':=[Itm.box aa 29 [v0_0]]) m
         obtain rfl:=sj bb
         obtain rfl:=bc _ rfl
         obtain rfl:=sj aU
         obtain rfl:=aV _ rfl
         obtain rfl:=sj hd
         exact⟨[(.bool false)],⟨f.get _ _ Z,trivial⟩,f.defers,_,[],(gt ad (gt aM (gt aW (gt bd bu)))),m,Z,Z⟩
        ·refine Ag f Z bv ?_
         refine Al ?_
         refine Ah ?_
         refine Ai f Z Z As fun a f=>Ab f Z fun a f=>Aa ?_
         obtain rfl:=sj bb
         exact⟨_,Z,_,Z,_,(gt bd bu),f.k Z,m⟩
       ·refine Ag f Z be ?_
        refine Aw Z ?_
        obtain rfl:=sj bb
        obtain rfl:=bc _ rfl
        exact⟨_,Z,_,bd,f.k Z,m⟩
      ·rintro a w ⟨_,rfl,a6,bw,f,m⟩
       have h0_0:=rd2 bw h0_0
       refine Ah ?_
       refine Ai f Z Z As fun a f=>Ab f Z fun a f=>Aa ?_
       obtain rfl:=sj aU
       exact⟨_,Z,_,Z,_,(gt aW bw),f.k Z,m⟩
     ·refine Ag f Z aX ?_
      refine Aw Z ?_
      have m:Mem W aS w H:=Mem.drop (H':=[Itm.box aa 29 [v0_0]]) m
      obtain rfl:=sj aU
      obtain rfl:=aV _ rfl
      exact⟨_,Z,_,aW,f.weak trivial,m⟩
    ·rintro a w ⟨_,rfl,aP,bx,f,m⟩
     refine Ac ?_
     refine Ad f Z fun a f=>Aa ?_
     refine Ao ?_
     obtain rfl:=sj hd
     exact⟨[(.bool true)],⟨f.get _ _ Z,trivial⟩,f.defers,_,[],(gt ad (gt aM bx)),m,Z,Z⟩
theorem Wk.S0 {W w:World}{G:GH}{H:List Itm}{v0_0:Value}{x0_0:(List (List Int))}(m:Mem W G w (H))(h0_0:RSl (RSl (RI .i64)) G v0_0 x0_0){y:Bool}(hd:D.S0 x0_0=some y):
  Calls Tryz.prog 31 #[(.agg #[v0_0])] w (Res W G H (fun _ Ho v=>Ho=[]∧v=(.bool y))):=by
 refine Aq (args:=[(.agg #[v0_0])]) (N:=11) [.tmp 2] Tryz.func31 Z Z (Nat.le_of_ble_eq_true Z) Z fun a f=> ?_
 unfold D.S0 at hd
 refine Ac ?_
 refine Bm (cs:=[v0_0]) m f Z Z Z fun aa w a m f=>Ad f Z fun a f=>Aa (Ac ?_)
 refine AE 0 0 (ds:=[v0_0]) m Bo f Z Z Z Z Z fun a f=> ?_
 obtain⟨ab,ac,hd⟩:=bind_some hd
 refine Bc f Z Tryz.call69 (Wk.e0 m h0_0 ac) fun ad w ae m a f=> ?_
 have h0_0:=rd2 ae h0_0
 refine Ab f Z fun a f=> ?_
 refine BA 5 (fun a w=>∃af,GLe ad af∧Mem W af w (Itm.box aa 29 [v0_0]::H)∧Fr a 11 [(0,(.agg #[v0_0])),(1,(.pointer (some ⟨aa,0,none⟩))),(3,(.agg #[v0_0])),(4,(.bool ab)),(5,(.bool ab)),(10,(.bool (ab&&(decide ((x0_0.length:Int)≤10)))))]) ?_ ?_
 ·rcases Bool.eq_false_or_eq_true ab with ag|ag
  ·refine Az f ag ?_
   refine Bk Tryz.underlying29 Z Tryz.sizeOf27 f Z fun a f=>Az f ag ?_
   refine Ay 0 0 m AX f Z Z Z Z fun a f=>Az f ag ?_
   refine AT Tryz.underlying27 f Z Z h0_0 fun a f=>Az f ag ?_
   refine Ai f Z Z CK fun a f=>l_o f (A3 (f.eval Z) ag (f.eval Z)) fun a f=> ?_
   exact⟨_,gr,m,f.weak ⟨Z,Z,Z,Z,Z,by rw[ag];rfl,trivial⟩⟩
  ·refine AB f ag fun a f=> ?_
   refine AB f ag fun a f=>AB f ag fun a f=>AB f ag fun a f=>l_o f (A2 (f.eval Z) ag (f.eval Z)) fun a f=> ?_
   exact⟨_,gr,m,f.weak ⟨Z,Z,Z,Z,Z,by rw[ag];rfl,trivial⟩⟩
 ·rintro a w ⟨af,ah,m,f⟩
  have h0_0:=rd2 ah h0_0
  refine Ad f Z fun a f=>Aa ?_
  refine Ao ?_
  have m:Mem W af w H:=Mem.drop (H':=[Itm.box aa 29 [v0_0]]) m
  obtain rfl:=sj hd
  exact⟨[(.bool (ab&&(decide ((x0_0.length:Int)≤10))))],⟨f.get _ _ Z,trivial⟩,f.defers,_,[],(gt ae ah),m,Z,Z⟩
theorem Wk.d {W w:World}{G:GH}{H:List Itm}{x0:Int}(m:Mem W G w (H)){y:Int}(hd:D.d x0=some y):
  Calls Tryz.prog 56 #[(.int .i64 x0)] w (Res W G H (fun _ Ho v=>Ho=[]∧v=(.int .u32 y))):=by
 refine Aq (args:=[(.int .i64 x0)]) (N:=5) [.tmp 2] Tryz.func56 Z Z (Nat.le_of_ble_eq_true Z) Z fun a f=> ?_
 unfold D.d at hd
 refine Ac ?_
 refine Ad f Z fun a f=>Aa (Ac ?_)
 refine Ab f Z fun a f=> ?_
 obtain⟨aa,hd⟩:=E7 hd
 refine l_o f (r_shl (f.eval Z) (f.eval Z) aa) fun a f=>Ad f Z fun a f=>Aa ?_
 refine Ao ?_
 obtain rfl:=sj hd
 exact⟨[(.int .u32 (ishl .u32 1 x0))],⟨f.get _ _ Z,trivial⟩,f.defers,_,[],gr,m,Z,Z⟩
theorem Wk.W {W w:World}{G:GH}{H:List Itm}{v0:Value}{x0:(List Int)}(m:Mem W G w (H))(h0:RSl (RI .i64) G v0 x0){y:Int}(hd:D.W x0=some y):
  Calls Tryz.prog 70 #[v0] w (Res W G H (fun _ Ho v=>Ho=[]∧v=(.int .u32 y))):=by
 refine Aq (args:=[v0]) (N:=18) [.tmp 2] Tryz.func70 Z Z (Nat.le_of_ble_eq_true Z) Z fun a f=> ?_
 unfold D.W at hd
 refine Ac ?_
 refine Ad f Z fun a f=>Aa (Ac ?_)
 refine Ad f Z fun a f=>Aa (Af (Ac ?_))
 refine Ab f Z fun a f=>AT Tryz.underlying31 f Z Z h0 fun a f=>Ab f Z fun a f=>Aa ?_
 obtain⟨aa,ab,hd⟩:=bind_some hd
 refine AF (fun a w=>∃ac:Int,ac=aa∧∃(ad:GH),GLe G ad∧Fr a 18 [(3,(.int .u32 ac))]∧Mem W ad w (H)) ?_ ?_
 ·refine Aj ?_
  refine AC (fun ae a w=>∃af:Int,∃ag:Int,(af,ag)=ae∧∃(ah:GH),GLe G ah∧Fr a 18 [(3,(.int .u32 af)),(6,v0),(7,(.int .i64 (x0.length:Int))),(8,(.int .i64 ag))]∧Mem W ah w (H)) ab ⟨_,_,Z,_,gr,f.k Z,m⟩ ?_
  clear ab f m
  rintro ae ai aj ak a w ⟨af,ag,rfl,ah,al,f,m⟩
  have h0:=rd1 al h0
  refine Ac ?_
  refine Ai f Z Z AA fun a f=>Aa (Af ?_)
  rcases Ae aj with⟨am,aj⟩|⟨am,aj⟩
  ·refine Ak f Z am ?_
   refine Al ?_
   refine Af (Aj (Ac ?_))
   obtain⟨an,ao,aj⟩:=bind_some aj
   refine AZ T31 f Z Z Z h0 ao fun ap aq a ar au f=> ?_
   subst au
   refine Au m Pl2 f Z Z ar fun a f=>Ad f Z fun a f=>Aa (Ah ?_)
   refine Ab f Z fun a f=>Ab f Z fun a f=> ?_
   obtain⟨av,aw,aj⟩:=bind_some aj
   refine Bc f Z Tryz.call56 (Wk.d m aw) fun ax w ay m a f=> ?_
   have h0:=rd1 ay h0
   refine Ai f Z Z b_or fun a f=>Ad f Z fun a f=>Aa (Ah ?_)
   refine Ai f Z Z As fun a f=>Ab f Z fun a f=>Aa ?_
   obtain rfl:=sj aj
   exact⟨_,Z,_,_,Z,_,(gt al ay),f.k Z,m⟩
  ·refine Ag f Z am ?_
   refine Aw Z ?_
   obtain rfl:=sj aj
   obtain rfl:=ak _ rfl
   exact⟨_,Z,_,al,f.k Z,m⟩
 ·rintro a w ⟨ac,rfl,ad,az,f,m⟩
  refine Ac ?_
  refine Ab f Z fun a f=>Ad f Z fun a f=>Aa ?_
  refine Ao ?_
  obtain rfl:=sj hd
  exact⟨[(.int .u32 ac)],⟨f.get _ _ Z,trivial⟩,f.defers,_,[],az,m,Z,Z⟩
theorem Wk.b0 {W w:World}{G:GH}{H:List Itm}{v0_0:Value}{x0_0:(List (List Int))}(m:Mem W G w (H))(h0_0:RSl (RSl (RI .i64)) G v0_0 x0_0){y:((List Int))}(hd:D.b0 x0_0=some y):
  Calls Tryz.prog 33 #[(.agg #[v0_0])] w (Res W G H (fun G' Ho v=>∃r0:Value,∃i0:Itm,Ho=[i0]∧r0=v∧Ow (RI .u32) 65 G' i0 r0 y)):=by
 refine Aq (args:=[(.agg #[v0_0])]) (N:=21) [.tmp 2] Tryz.func33 Z Z (Nat.le_of_ble_eq_true Z) Z fun a f=> ?_
 unfold D.b0 at hd
 refine Ac ?_
 refine Bm (cs:=[v0_0]) m f Z Z Z fun aa w a m f=>Ad f Z fun a f=>Aa (Ac ?_)
 refine A7 (R:=(RI .u32)) (xs:=([]:List Int)) (RI.one _) m T61 f Z Z Z (by decide) (All2.nil _) fun ab ac w a m ad f=>Ad f Z fun a f=>Aa (Af (Ac ?_))
 refine Bk Tryz.underlying29 Z Tryz.sizeOf27 f Z fun a f=>Ay 1 0 m AX f Z Z Z Z fun a f=>AT Tryz.underlying27 f Z Z h0_0 fun a f=>Ab f Z fun a f=>Aa ?_
 obtain⟨ae,af,hd⟩:=bind_some hd
 refine AF (fun a w=>∃ag:List Int,ag=ae∧∃(ah:GH) (ai:Value) (aj:Itm),GLe G ah∧Fr a 21 [(3,ai)]∧Mem W ah w (aj::H)∧Ow (RI .u32) 65 ah aj ai ag) ?_ ?_
 ·refine Aj ?_
  have m:=m.eraseAt 1
  refine AC (fun ak a w=>∃al:List Int,∃am:Int,(al,am)=ak∧∃(an:GH) (ao:Value) (ap:Itm),GLe G an∧Fr a 21 [(3,ao),(8,v0_0),(9,(.int .i64 (x0_0.length:Int))),(10,(.int .i64 am))]∧Mem W an w (ap::H)∧Ow (RI .u32) 65 an ap ao al) af ⟨_,_,Z,_,ac,ab,gr,f.k Z,m,ad⟩ ?_
  clear af f m
  rintro ak aq ar au a w ⟨al,am,rfl,an,ao,ap,av,f,m,aw⟩
  have h0_0:=rd2 av h0_0
  refine Ac ?_
  refine Ai f Z Z AA fun a f=>Aa (Af ?_)
  rcases Ae ar with⟨ax,ar⟩|⟨ax,ar⟩
  ·refine Ak f Z ax ?_
   refine Al ?_
   refine Af (Aj (Ac ?_))
   obtain⟨ay,az,ar⟩:=bind_some ar
   refine AZ T27 f Z Z Z h0_0 az fun aA aB a aC aD f=>Au m AO f Z Z aC fun a f=>Ad f Z fun a f=>Aa (Ah ?_)
   refine Ab f Z fun a f=>Ab f Z fun a f=> ?_
   obtain⟨aE,aF,ar⟩:=bind_some ar
   refine Bc f Z Tryz.call70 (Wk.W m aD aF) fun aG w aH m a f=> ?_
   have aD:=rd1 aH aD
   have h0_0:=rd2 aH h0_0
   have aw:=od1 aH aw
   refine A7 (R:=(RI .u32)) (xs:=([aE]:List Int)) (RI.one _) m T61 f Z Z Z (by decide) (All2.cons Z (All2.nil _)) fun aI aJ w a m aK f=> ?_
   obtain⟨aL,aM,ar⟩:=bind_some ar
   refine Bh (RI.one _) 1 m aw Z T61 Z (by decide) f Z Z Z (Ow.src (j:=0) aK m Z) aM fun aN aO w a m aP f=>Ad f Z fun a f=>Aa (Ah ?_)
   refine Ai f Z Z As fun a f=>Ab f Z fun a f=>Aa ?_
   have m:=m.front 1 rfl
   have m:=m.eraseAt 1
   obtain rfl:=sj ar
   exact⟨_,Z,_,_,Z,_,aO,aN,(gt av aH),f.k Z,m,aP⟩
  ·refine Ag f Z ax ?_
   refine Aw Z ?_
   obtain rfl:=sj ar
   obtain rfl:=au _ rfl
   exact⟨_,Z,_,ao,ap,av,f.k Z,m,aw⟩
 ·rintro a w ⟨ag,rfl,ah,ai,aj,aQ,f,m,aR⟩
  refine Ac ?_
  refine Ab f Z fun a f=>Ad f Z fun a f=>Aa ?_
  refine Ao ?_
  obtain rfl:=sj hd
  exact⟨[ai],⟨f.get _ _ Z,trivial⟩,f.defers,_,[aj],aQ,m,_,_,Z,Z,aR⟩
theorem Wk.I0 {W w:World}{G:GH}{H:List Itm}{x0:Int}(m:Mem W G w (H)){y:Int}(hd:D.I0 x0=some y):
  Calls Tryz.prog 106 #[(.int .i64 x0)] w (Res W G H (fun _ Ho v=>Ho=[]∧v=(.int .u32 y))):=by
 refine Aq (args:=[(.int .i64 x0)]) (N:=6) [.tmp 2] Tryz.func106 Z Z (Nat.le_of_ble_eq_true Z) Z fun a f=> ?_
 unfold D.I0 at hd
 refine Ac ?_
 refine Ad f Z fun a f=>Aa (Ac ?_)
 refine Ab f Z fun a f=> ?_
 obtain⟨aa,hd⟩:=E7 hd
 refine l_o f (r_shl (f.eval Z) (f.eval Z) aa) fun a f=>Ai f Z Z A8 fun a f=>Ad f Z fun a f=>Aa ?_
 refine Ao ?_
 obtain rfl:=sj hd
 exact⟨[(.int .u32 (IntKind.u32.wrap ((ishl .u32 1 x0)-1)))],⟨f.get _ _ Z,trivial⟩,f.defers,_,[],gr,m,Z,Z⟩
theorem Wk.o {W w:World}{G:GH}{H:List Itm}{v0:Value}{x0:(List Int)}(m:Mem W G w (H))(h0:RSl (RI .u32) G v0 x0){y:Int}(hd:D.o x0=some y):
  Calls Tryz.prog 71 #[v0] w (Res W G H (fun _ Ho v=>Ho=[]∧v=(.int .u32 y))):=by
 refine Aq (args:=[v0]) (N:=6) [.tmp 2] Tryz.func71 Z Z (Nat.le_of_ble_eq_true Z) Z fun a f=> ?_
 unfold D.o at hd
 refine Ac ?_
 refine Ad f Z fun a f=>Aa (Ac ?_)
 refine Ab f Z fun a f=>AT Tryz.underlying61 f Z Z h0 fun a f=> ?_
 obtain⟨aa,ab,hd⟩:=bind_some hd
 refine Bc f Z Tryz.call106 (Wk.I0 m ab) fun ac w ad m a f=> ?_
 have h0:=rd1 ad h0
 refine Ad f Z fun a f=>Aa ?_
 refine Ao ?_
 obtain rfl:=sj hd
 exact⟨[(.int .u32 aa)],⟨f.get _ _ Z,trivial⟩,f.defers,_,[],ad,m,Z,Z⟩
theorem Wk.o0 {W w:World}{G:GH}{H:List Itm}{x0:Int}(hW:CW W)(m:Mem W G w (H)){y:Int}(hd:D.o0 x0=some y):
  Calls Tryz.prog 107 #[(.int .u32 x0)] w (Res W G H (fun _ Ho v=>Ho=[]∧v=(.int .i64 y))):=by
 refine Aq (args:=[(.int .u32 x0)]) (N:=5) [.tmp 2] Tryz.func107 Z Z (Nat.le_of_ble_eq_true Z) Z fun a f=> ?_
 unfold D.o0 at hd
 refine Ac ?_
 refine Ad f Z fun a f=>Aa (Ac ?_)
 refine Ab f Z fun a f=> ?_
 obtain⟨aa,ab,hd⟩:=bind_some hd
 refine Bc f Z Tryz.call125 (Wk.r1 hW m ab) fun ac w ad m a f=>Ad f Z fun a f=>Aa ?_
 refine Ao ?_
 obtain rfl:=sj hd
 exact⟨[(.int .i64 aa)],⟨f.get _ _ Z,trivial⟩,f.defers,_,[],ad,m,Z,Z⟩
theorem Wk.i {W w:World}{G:GH}{H:List Itm}{x0:Int}(hW:CW W)(m:Mem W G w (H)){y:((List Int))}(hd:D.i x0=some y):
  Calls Tryz.prog 72 #[(.int .u32 x0)] w (Res W G H (fun G' Ho v=>∃r0:Value,∃i0:Itm,Ho=[i0]∧r0=v∧Ow (RI .i64) 3 G' i0 r0 y)):=by
 refine Aq (args:=[(.int .u32 x0)]) (N:=17) [.tmp 2] Tryz.func72 Z Z (Nat.le_of_ble_eq_true Z) Z fun a f=> ?_
 unfold D.i at hd
 refine Ac ?_
 refine Ad f Z fun a f=>Aa (Ac ?_)
 refine A7 (R:=(RI .i64)) (xs:=([]:List Int)) (RI.one _) m T67 f Z Z Z (by decide) (All2.nil _) fun aa ab w a m ac f=>Ad f Z fun a f=>Aa (Af ?_)
 obtain⟨ad,ae,hd⟩:=bind_some hd
 refine AF (fun a w=>∃af:List Int,af=ad∧∃(ag:GH) (ah:Value) (ai:Itm),GLe G ag∧Fr a 17 [(3,ah)]∧Mem W ag w (ai::H)∧Ow (RI .i64) 3 ag ai ah af) ?_ ?_
 ·refine Aj ?_
  refine AC (fun aj a w=>∃ak:Int,∃al:List Int,(ak,al)=aj∧∃(am:GH) (an:Value) (ao:Itm),GLe G am∧Fr a 17 [(0,(.int .u32 ak)),(3,an)]∧Mem W am w (ao::H)∧Ow (RI .i64) 3 am ao an al) ae ⟨_,_,Z,_,ab,aa,gr,f.k Z,m,ac⟩ ?_
  clear ae f m
  rintro aj ap aq ar a w ⟨ak,al,rfl,am,an,ao,au,f,m,av⟩
  refine Af (Ac ?_)
  refine Ab f Z fun a f=>Ai f Z Z Cs fun a f=>Aa ?_
  rcases Ae aq with⟨aw,aq⟩|⟨aw,aq⟩
  ·refine Ak f Z aw ?_
   refine Al ?_
   refine Af (Aj (Ah ?_))
   refine Ab f Z fun a f=>Ab f Z fun a f=> ?_
   obtain⟨ax,ay,aq⟩:=bind_some aq
   refine Bc f Z Tryz.call107 (Wk.o0 hW m ay) fun az w aA m a f=> ?_
   have av:=od1 aA av
   refine A7 (R:=(RI .i64)) (xs:=([ax]:List Int)) (RI.one _) m T67 f Z Z Z (by decide) (All2.cons Z (All2.nil _)) fun aB aC w a m aD f=> ?_
   obtain⟨aE,aF,aq⟩:=bind_some aq
   refine Bh (RI.one _) 1 m av Z T67 Z (by decide) f Z Z Z (Ow.src (j:=0) aD m Z) aF fun aG aH w a m aI f=>Ad f Z fun a f=>Aa (Ah ?_)
   refine Ab f Z fun a f=>Ab f Z fun a f=>Ai f Z Z A8 fun a f=>Ai f Z Z Er fun a f=>Ad f Z fun a f=>Aa ?_
   have m:=m.front 1 rfl
   have m:=m.eraseAt 1
   obtain rfl:=sj aq
   exact⟨_,Z,_,_,Z,_,aH,aG,(gt au aA),f.k Z,m,aI⟩
  ·refine Ag f Z aw ?_
   refine Aw Z ?_
   obtain rfl:=sj aq
   obtain rfl:=ar _ rfl
   exact⟨_,Z,_,an,ao,au,f.k Z,m,av⟩
 ·rintro a w ⟨af,rfl,ag,ah,ai,aJ,f,m,aK⟩
  refine Ac ?_
  refine Ab f Z fun a f=>Ad f Z fun a f=>Aa ?_
  refine Ao ?_
  obtain rfl:=sj hd
  exact⟨[ah],⟨f.get _ _ Z,trivial⟩,f.defers,_,[ai],aJ,m,_,_,Z,Z,aK⟩
theorem Wk.B0 {W w:World}{G:GH}{H:List Itm}{v0:Value}{x0:(List Int)}{x1:Int}{x2:Int}(hW:CW W)(m:Mem W G w (H))(h0:RSl (RI .u32) G v0 x0){y:Int}(hd:D.B0 x0 x1 x2=some y):
  Calls Tryz.prog 119 #[v0,(.int .i64 x1),(.int .u32 x2)] w (Res W G H (fun _ Ho v=>Ho=[]∧v=(.int .u32 y))):=by
 refine Aq (args:=[v0,(.int .i64 x1),(.int .u32 x2)]) (N:=35) [.tmp 6] Tryz.func119 Z Z (Nat.le_of_ble_eq_true Z) Z fun a f=> ?_
 unfold D.B0 at hd
 refine Ac ?_
 refine Ad f Z fun a f=>Aa (Ac ?_)
 refine Ab f Z fun a f=> ?_
 obtain⟨aa,ab,hd⟩:=bind_some hd
 refine Bc f Z Tryz.call56 (Wk.d m ab) fun ac w ad m a f=> ?_
 have h0:=rd1 ad h0
 refine Ad f Z fun a f=>Aa ?_
 obtain⟨ae,af,hd⟩:=bind_some hd
 refine Aj ?_
 refine AC (fun ag a w=>∃ah:Int,ah=ag∧∃(ai:GH),GLe ac ai∧Fr a 35 [(0,v0),(2,(.int .u32 x2)),(7,(.int .u32 ah))]∧Mem W ai w (H)) af ⟨_,Z,_,gr,f.k Z,m⟩ ?_
 clear af f m
 rintro ag aj ak al a w ⟨ah,rfl,ai,am,f,m⟩
 have h0:=rd1 am h0
 refine Aj (Ac ?_)
 refine Ab f Z fun a f=>Ad f Z fun a f=>Aa (Af (Ac ?_))
 refine Ab f Z fun a f=> ?_
 obtain⟨an,ao,ak⟩:=bind_some ak
 refine AK f Z Tryz.call72 (Wk.i hW m ao) fun ap aq ar w au m av a f=> ?_
 obtain⟨aw,ax,rfl,rfl,ay⟩:=av
 have h0:=rd1 au h0
 refine Bw 0 m ay Z Tryz.underlying67 f Z Z fun a f=>Ab f Z fun a f=>Aa ?_
 obtain⟨az,aA,ak⟩:=bind_some ak
 refine AF (fun a w=>∃aB:Int,aB=az∧∃(aC:GH),GLe aq aC∧Fr a 35 [(0,v0),(2,(.int .u32 x2)),(7,(.int .u32 ah)),(8,(.int .u32 aB))]∧Mem W aC w (H)) ?_ ?_
 ·refine Aj ?_
  refine AC (fun aD a w=>∃aE:Int,∃aF:Int,(aE,aF)=aD∧∃(aG:GH),GLe aq aG∧Fr a 35 [(0,v0),(2,(.int .u32 x2)),(7,(.int .u32 ah)),(8,(.int .u32 aE)),(15,aw),(16,(.int .i64 (an.length:Int))),(17,(.int .i64 aF))]∧Mem W aG w (ax::H)) aA ⟨_,_,Z,_,gr,f.k Z,m⟩ ?_
  clear aA f m
  rintro aD aH aI aJ a w ⟨aE,aF,rfl,aG,aK,f,m⟩
  have h0:=rd1 aK h0
  have ay:=od1 aK ay
  refine Ac ?_
  refine Ai f Z Z AA fun a f=>Aa (Af ?_)
  rcases Ae aI with⟨aL,aI⟩|⟨aL,aI⟩
  ·refine Ak f Z aL ?_
   refine Al ?_
   refine Af (Aj (Ac ?_))
   obtain⟨aM,aN,aI⟩:=bind_some aI
   refine AV 0 m ay Z T67 f Z Z Z aN fun aO a aP f=>Bt 0 m ay Z Pl3 f Z Z aP aN fun aQ a aR f=> ?_
   subst aR
   refine Ad f Z fun a f=>Aa (Ah ?_)
   refine Ab f Z fun a f=>Ab f Z fun a f=>Ab f Z fun a f=> ?_
   obtain⟨aS,aT,aI⟩:=bind_some aI
   refine AZ T61 f Z Z Z h0 aT fun aU aV a aW aX f=> ?_
   subst aX
   refine Au m DB f Z Z aW fun a f=>Ab f Z fun a f=>Ai f Z Z Er fun a f=>Ai f Z Z b_or fun a f=>Ad f Z fun a f=>Aa (Ah ?_)
   refine Ai f Z Z As fun a f=>Ab f Z fun a f=>Aa ?_
   obtain rfl:=sj aI
   exact⟨_,Z,_,_,Z,_,aK,f.k Z,m⟩
  ·refine Ag f Z aL ?_
   refine Aw Z ?_
   have m:Mem W aG w H:=Mem.drop (H':=[ax]) m
   obtain rfl:=sj aI
   obtain rfl:=aJ _ rfl
   exact⟨_,Z,_,aK,f.k Z,m⟩
 ·rintro a w ⟨aB,rfl,aC,aY,f,m⟩
  have h0:=rd1 aY h0
  refine Af (Ac ?_)
  refine Ab f Z fun a f=>Ab f Z fun a f=>Ai f Z Z BH fun a f=>Aa ?_
  rcases Ae ak with⟨aZ,ak⟩|⟨aZ,ak⟩
  ·refine Ak f Z aZ ?_
   refine Ac ?_
   refine Ab f Z fun a f=>Ad f Z fun a f=>Aa ?_
   refine Ao ?_
   obtain rfl:=sj ak
   obtain rfl:=al _ rfl
   obtain rfl:=sj hd
   exact⟨[(.int .u32 ah)],⟨f.get _ _ Z,trivial⟩,f.defers,_,[],(gt ad (gt am (gt au aY))),m,Z,Z⟩
  ·refine Ag f Z aZ ?_
   refine Al ?_
   refine Ah ?_
   refine Ab f Z fun a f=>Ad f Z fun a f=>Aa ?_
   obtain rfl:=sj ak
   exact⟨_,Z,_,Z,_,(gt am (gt au aY)),f.k Z,m⟩
theorem Wk.R {W w:World}{G:GH}{H:List Itm}{v0:Value}{x0:(List Int)}{x1:Int}{x2:Int}(hW:CW W)(m:Mem W G w (H))(h0:RSl (RI .u32) G v0 x0){y:Int}(hd:D.R x0 x1 x2=some y):
  Calls Tryz.prog 92 #[v0,(.int .u32 x1),(.int .i64 x2)] w (Res W G H (fun _ Ho v=>Ho=[]∧v=(.int .u32 y))):=by
 refine Aq (args:=[v0,(.int .u32 x1),(.int .i64 x2)]) (N:=38) [.tmp 6] Tryz.func92 Z Z (Nat.le_of_ble_eq_true Z) Z fun a f=> ?_
 unfold D.R at hd
 refine Ac ?_
 refine Ad f Z fun a f=>Aa (Ac ?_)
 refine Ab f Z fun a f=>Ab f Z fun a f=>Ab f Z fun a f=>Ab f Z fun a f=> ?_
 obtain⟨aa,ab,hd⟩:=bind_some hd
 refine Bc f Z Tryz.call56 (Wk.d m ab) fun ac w ad m a f=> ?_
 have h0:=rd1 ad h0
 refine Ai f Z Z b_or fun a f=> ?_
 obtain⟨ae,af,hd⟩:=bind_some hd
 refine Bc f Z Tryz.call119 (Wk.B0 hW m h0 af) fun ag w ah m a f=> ?_
 have h0:=rd1 ah h0
 refine Ad f Z fun a f=>Aa (Ac ?_)
 refine Ad f Z fun a f=>Aa (Af (Ac ?_))
 refine Ab f Z fun a f=> ?_
 obtain⟨ai,aj,hd⟩:=bind_some hd
 refine AK f Z Tryz.call72 (Wk.i hW m aj) fun ak al am w an m ao a f=> ?_
 obtain⟨ap,aq,rfl,rfl,ar⟩:=ao
 have h0:=rd1 an h0
 refine Bw 0 m ar Z Tryz.underlying67 f Z Z fun a f=>Ab f Z fun a f=>Aa ?_
 obtain⟨au,av,hd⟩:=bind_some hd
 refine AF (fun a w=>∃aw:Int,aw=au∧∃(ax:GH),GLe al ax∧Fr a 38 [(1,(.int .u32 x1)),(2,(.int .i64 x2)),(8,(.int .u32 aw))]∧Mem W ax w (H)) ?_ ?_
 ·refine Aj ?_
  refine AC (fun ay a w=>∃az:Int,∃aA:Int,(az,aA)=ay∧∃(aB:GH),GLe al aB∧Fr a 38 [(0,v0),(1,(.int .u32 x1)),(2,(.int .i64 x2)),(8,(.int .u32 az)),(19,ap),(20,(.int .i64 (ai.length:Int))),(21,(.int .i64 aA))]∧Mem W aB w (aq::H)) av ⟨_,_,Z,_,gr,f.k Z,m⟩ ?_
  clear av f m
  rintro ay aC aD aE a w ⟨az,aA,rfl,aB,aF,f,m⟩
  have h0:=rd1 aF h0
  have ar:=od1 aF ar
  refine Ac ?_
  refine Ai f Z Z AA fun a f=>Aa (Af ?_)
  rcases Ae aD with⟨aG,aD⟩|⟨aG,aD⟩
  ·refine Ak f Z aG ?_
   refine Al ?_
   refine Af (Aj (Ac ?_))
   obtain⟨aH,aI,aD⟩:=bind_some aD
   refine AV 0 m ar Z T67 f Z Z Z aI fun aJ a aK f=>Bt 0 m ar Z Pl3 f Z Z aK aI fun aL a aM f=> ?_
   subst aM
   refine Ad f Z fun a f=>Aa (Ah ?_)
   refine Ab f Z fun a f=>Ab f Z fun a f=>Ab f Z fun a f=> ?_
   obtain⟨aN,aO,aD⟩:=bind_some aD
   refine AZ T61 f Z Z Z h0 aO fun aP aQ a aR aS f=> ?_
   subst aS
   refine Au m DB f Z Z aR fun a f=>Ai f Z Z b_or fun a f=>Ad f Z fun a f=>Aa (Ah ?_)
   refine Ai f Z Z As fun a f=>Ab f Z fun a f=>Aa ?_
   obtain rfl:=sj aD
   exact⟨_,Z,_,_,Z,_,aF,f.k Z,m⟩
  ·refine Ag f Z aG ?_
   refine Aw Z ?_
   have m:Mem W aB w H:=Mem.drop (H':=[aq]) m
   obtain rfl:=sj aD
   obtain rfl:=aE _ rfl
   exact⟨_,Z,_,aF,f.k Z,m⟩
 ·rintro a w ⟨aw,rfl,ax,aT,f,m⟩
  refine Ac ?_
  refine Ab f Z fun a f=>Ab f Z fun a f=>Ai f Z Z C7 fun a f=>Ab f Z fun a f=> ?_
  obtain⟨aU,aV,hd⟩:=bind_some hd
  refine Bc f Z Tryz.call56 (Wk.d m aV) fun aW w aX m a f=>Ai f Z Z C7 fun a f=>Ad f Z fun a f=>Aa ?_
  refine Ao ?_
  obtain rfl:=sj hd
  exact⟨[(.int .u32 (iandNot .u32 (iandNot .u32 aw x1) aU))],⟨f.get _ _ Z,trivial⟩,f.defers,_,[],(gt ad (gt ah (gt an (gt aT aX)))),m,Z,Z⟩
theorem Wk.C0 {W w:World}{G:GH}{H:List Itm}{x0:Int}(m:Mem W G w (H)){y:Int}(hd:D.C0 x0=some y):
  Calls Tryz.prog 93 #[(.int .u32 x0)] w (Res W G H (fun _ Ho v=>Ho=[]∧v=(.int .i64 y))):=by
 refine Aq (args:=[(.int .u32 x0)]) (N:=5) [.tmp 2] Tryz.func93 Z Z (Nat.le_of_ble_eq_true Z) Z fun a f=> ?_
 unfold D.C0 at hd
 refine Ac ?_
 refine Ad f Z fun a f=>Aa (Ac ?_)
 refine Ab f Z fun a f=> ?_
 obtain⟨aa,ab,hd⟩:=bind_some hd
 refine Bc f Z Tryz.call120 (Wk.K0 m ab) fun ac w ad m a f=>Ad f Z fun a f=>Aa ?_
 refine Ao ?_
 obtain rfl:=sj hd
 exact⟨[(.int .i64 aa)],⟨f.get _ _ Z,trivial⟩,f.defers,_,[],ad,m,Z,Z⟩
end Go.Proofs.YtkffjeaefgfnnaaGreatDoor

namespace Go.Sx
def OwMp {β:Type}(q:IntKind)(enc:β→Value)(it:Itm)(v:Value)(M:List (Int×β)):Prop:=
 ∃(b:Nat) (es:Array MapEntry) (clock:Nat),it= .obj b (.map es clock)∧v= .map (some b)∧es.toList.map (fun e=>(e.key,e.val))=M.map (fun kv=>(Value.int q kv.1,enc kv.2))
theorem find_now {β:Type}{q:IntKind}{enc:β→Value}(x:Int):∀(es:List MapEntry) (M:List (Int×β)) (i:Nat),es.map (fun e=>(e.key,e.val))=M.map (fun kv=>(Value.int q kv.1,enc kv.2))→
  (Instr.findNow (.int q) (.int q x) es i=some none∧∀kv∈M,kv.1≠x)∨∃j kv,Instr.findNow (.int q) (.int q x) es i=some (some (i+j,enc kv.2))∧M[j]? =some kv∧kv.1=x
 |[],M,i,h=>by
  have:M=[]:=by simpa using h.symm
  subst this
  exact .inl ⟨rfl,by simp⟩
 |e::es,[],i,h=>by simp at h
 |e::es,kv::M,i,h=>by
  simp only[List.map_cons,List.cons.injEq,Prod.mk.injEq] at h
  obtain⟨⟨h1,h2⟩,h3⟩:=h
  unfold Instr.findNow
  rw[h1]
  simp only[Instr.sameNow,if_true]
  by_cases hx:x=kv.1
  ·rw[show (x==kv.1)=true by simp[hx]]
   exact .inr ⟨0,kv,by simp[h2],rfl,hx.symm⟩
  ·rw[show (x==kv.1)=false by simp[hx]]
   rcases find_now x es M (i+1) h3 with⟨h4,h5⟩|⟨j,kv',h4,h5,h6⟩
   ·refine .inl ⟨h4,fun z hz=> ?_⟩
    rcases List.mem_cons.1 hz with rfl|hz
    ·exact fun e=>hx e.symm
    ·exact h5 z hz
   ·exact .inr ⟨j+1,kv',by simp only[h4];congr 3;omega,by simpa using h5,h6⟩
section
variable {P : Program} {ρ : Operand → Value} {w : World} {d : Option Tmp} {t : TypeId} {pos : String} {af : Array Edge} {gd : Option (Nat × Bool)}
theorem EM {q:IntKind}{kt:TypeId}(hk:P.underlying kt=some (.int q)){k:Value}{es:List MapEntry}{o:Option (Nat×Value)}(h:Instr.findNow (.int q) k es 0=some o):(Instr.findKey kt k es).run P w= .ok o w:=by
 simp[Instr.findKey,run_underlying hk,h]
theorem Em {q:IntKind}{kt:TypeId}(hk:P.underlying kt=some (.int q))(e:Bool)(x:Int):(Instr.checkKey e 10000 kt (.int q x)).run P w= .ok () w:=by
 unfold Instr.checkKey
 simp[run_underlying hk]
theorem run_map {b:Nat}{es:Array MapEntry}{clock:Nat}(h:w.heap[b]? =some (.map es clock)):(getObj b).run P w= .ok (.map es clock) w:=by
 simp[getObj,Sem.run,h]
theorem run_setMap {b:Nat}{es:Array MapEntry}{clock:Nat}{o':Obj}(h:w.heap[b]? =some (.map es clock)):(setObj b o').run P w= .ok () {w with heap:=w.heap.setIfInBounds b o'}:=by
 simp[setObj,Sem.run,h]
theorem run_stays (q:IntKind)(x:Int):(Instr.keyThatStays (.int q x) (.int q x)).run P w= .ok (.int q x) w:=by
 have e:Instr.sameBits 10000 (.int q x) (.int q x)=true:=by simp[Instr.sameBits]
 unfold Instr.keyThatStays
 rw[e];rfl
theorem r_lookup {xo ko:Operand}{mt kt et:TypeId}{q:IntKind}{b:Nat}{es:Array MapEntry}{clock:Nat}{x:Int}{z:Value}{o:Option (Nat×Value)}{ok:Bool}(hx:ρ xo= .map (some b))(hk:ρ ko= .int q x)
  (ht:P.underlying mt=some (.map kt et)) (hq:P.underlying kt=some (.int q)) (hz:∀w,(zeroValue et).run P w= .ok z w) (hg:w.heap[b]? =some (.map es clock)) (ho:Instr.findNow (.int q) (.int q x) es.toList 0=some o):
  (execOp ρ ⟨d,.lookup mt xo ko ok,t,pos,af,gd⟩).run P w= .ok (.value (if ok then .tuple #[(o.map (·.2)).getD z,.bool o.isSome] else(o.map (·.2)).getD z)) w:=by
 cases o with
 |none=>simp[execOp,hx,hk,Instr.lookup,run_underlying ht,run_map hg,Em hq,EM hq ho,hz w]
 |some p=>obtain⟨i,v⟩:=p;simp[execOp,hx,hk,Instr.lookup,run_underlying ht,run_map hg,Em hq,EM hq ho]
theorem r_makeMap {mt:TypeId}:(execOp ρ ⟨d,.makeMap mt none,t,pos,af,gd⟩).run P w= .ok (.value (.map (some w.heap.size))) (w.alloc (.map #[] 0)):=by
 simp[execOp,Instr.makeMap]
theorem FC {mo ko vo:Operand}{mt kt et:TypeId}{q:IntKind}{b:Nat}{es:Array MapEntry}{clock:Nat}{x:Int}{y:Value}{o:Option (Nat×Value)}(hm:ρ mo= .map (some b))(hk:ρ ko= .int q x)(hv:ρ vo=y)
  (ht:P.underlying mt=some (.map kt et)) (hq:P.underlying kt=some (.int q)) (hg:w.heap[b]? =some (.map es clock)) (ho:Instr.findNow (.int q) (.int q x) es.toList 0=some o) (hkey:∀j v,o=some (j,v)→(es[j]?).map (·.key)=some (.int q x)):
  (execOp ρ ⟨d,.mapUpdate mt mo ko vo,t,pos,af,gd⟩).run P w= .ok .skip {w with heap:=w.heap.setIfInBounds b (match o with|some (j,_)=> .map (es.modify j fun e=>{e with key:= .int q x,val:=y}) clock|none=> .map (es.push {key:= .int q x,val:=y,born:=clock}) (clock+1))}:=by
 cases o with
 |none=>simp[execOp,hm,hk,hv,Instr.mapUpdate,run_underlying ht,run_map hg,Em hq,EM hq ho,run_setMap hg]
 |some p=>
  obtain⟨j,v⟩:=p
  have h1:=hkey j v rfl
  have h2:((es[j]?).map (·.key)).getD (.int q x)= .int q x:=by rw[h1];rfl
  simp only[execOp,hm,hk,hv,Instr.mapUpdate]
  simp[run_underlying ht,run_map hg,Em hq,EM hq ho,h2,run_stays,run_setMap hg]
end
section
variable {P : Program} {ops : Array Oper} {rest : List Oper} {n r : Bl} {x : List (Nat × Bl)} {a : Act} {w : World} {N : Nat} {L : Bq}
variable {W : World} {G : GH} {H : List Itm}
variable {d : Nat} {t : TypeId} {pos : String} {af : Array Edge}
theorem l_makeMap {β:Type}(q:IntKind)(enc:β→Value){mt:TypeId}(m:Mem W G w H)(f:Fr a N L)(hN:Nat.blt d N=true)
  (k:∀it v w' a',Mem W G w' (it::H)→OwMp q enc it v []→Fr a' N ((d,v)::L)→wpList P ops (Qk n x r) rest a' w'):
  wpList P ops (Qk n x r) (⟨some d,.makeMap mt none,t,pos,af,none⟩::rest) a w:=
 AP f rfl rfl hN r_makeMap (fun a' f'=>k (.obj w.heap.size (.map #[] 0)) _ _ a' (m.add rfl rfl rfl (fun y hy=>by first|exact heap_alloc_old w _ y hy|exact heap_alloc_old w _ hy) (heap_alloc_new w _) (fun y hy=>by simp[Itm.foot] at hy;omega)) ⟨_,_,_,rfl,rfl,rfl⟩ f')
theorem l_lookup2 {β:Type}{q:IntKind}{enc:β→Value}{it:Itm}{v z:Value}{M:List (Int×β)}{mt kt et:TypeId}{xo ko:Operand}{i:Int}(j:Nat)(m:Mem W G w H)(h:OwMp q enc it v M)(hj:H[j]? =some it)
  (ht:P.underlying mt=some (.map kt et)) (hq:P.underlying kt=some (.int q)) (hz:∀w,(zeroValue et).run P w= .ok z w) (f:Fr a N L) (hN:Nat.blt d N=true) (hx:AQ L xo=some v) (hk:AQ L ko=some (.int q i))
  (k:∀(o:Option β),(∀y,o=some y→(i,y)∈M)→∀a',Fr a' N ((d,.tuple #[(o.map enc).getD z,.bool o.isSome])::L)→wpList P ops (Qk n x r) rest a' w):
  wpList P ops (Qk n x r) (⟨some d,.lookup mt xo ko true,t,pos,af,none⟩::rest) a w:=by
 obtain⟨b,es,clock,rfl,rfl,he⟩:=h
 have hg:w.heap[b]? =some (.map es clock):=m.items j _ hj
 rcases find_now i es.toList M 0 he with⟨h1,_⟩|⟨j',kv,h1,h2,h3⟩
 ·exact AP f rfl rfl hN (r_lookup (f.eval hx) (f.eval hk) ht hq hz hg h1) (fun a' f'=>k none (fun y hy=>by cases hy) a' f')
 ·exact AP f rfl rfl hN (r_lookup (f.eval hx) (f.eval hk) ht hq hz hg h1) (fun a' f'=>k (some kv.2) (fun y hy=>by
   simp only[Option.some.injEq] at hy
   subst hy;rw[←h3];exact List.mem_of_getElem? h2) a' f')
theorem l_mapUpdate {β:Type}{q:IntKind}{enc:β→Value}{it:Itm}{v:Value}{M:List (Int×β)}{mt kt et:TypeId}{xo ko vo:Operand}{i:Int}{y:β}(j:Nat)(m:Mem W G w H)(h:OwMp q enc it v M)(hj:H[j]? =some it)
  (ht:P.underlying mt=some (.map kt et)) (hq:P.underlying kt=some (.int q)) (f:Fr a N L) (hx:AQ L xo=some v) (hk:AQ L ko=some (.int q i)) (hv:AQ L vo=some (enc y))
  (k:∀it' M' w',(∀kv∈M',kv=(i,y)∨kv∈M)→Mem W G w' (H.set j it')→OwMp q enc it' v M'→wpList P ops (Qk n x r) rest a w'):
  wpList P ops (Qk n x r) (⟨none,.mapUpdate mt xo ko vo,t,pos,af,none⟩::rest) a w:=by
 obtain⟨b,es,clock,rfl,rfl,he⟩:=h
 have hg:w.heap[b]? =some (.map es clock):=m.items j _ hj
 have hb:b<w.heap.size:=(Array.getElem?_eq_some_iff.1 hg).1
 have hlen:es.toList.length=M.length:=by have:=congrArg List.length he;simpa using this
 have hmem:∀(o:Obj),Mem W G {w with heap:=w.heap.setIfInBounds b o} (H.set j (.obj b o)):=fun o=>
  m.changeAt j hj rfl rfl rfl (fun y _ hy=>by
   have:y≠b:=fun e=>hy (by rw[e];simp[Itm.foot])
   simp[Ne.symm this]) (by simp[Itm.ok,hb]) (fun y hy=> .inl hy)
 rcases find_now i es.toList M 0 he with⟨h1,_⟩|⟨j',kv,h1,h2,h3⟩
 ·refine l_void rfl rfl (FC (f.eval hx) (f.eval hk) (f.eval hv) ht hq hg h1 (fun j v hc=>by cases hc)) ?_
  refine k _ (M++[(i,y)]) _ (fun kv hkv=> ?_) (hmem _) ⟨b,_,_,rfl,rfl,?_⟩
  ·rcases List.mem_append.1 hkv with h|h
   ·exact .inr h
   ·exact .inl (by simpa using h)
  ·simp[he]
 ·have hjl:j'<es.toList.length:=by rw[hlen];exact(List.getElem?_eq_some_iff.1 h2).1
  have hkey:(es[j']?).map (·.key)=some (.int q i):=by
   have hA:=congrArg (fun l=>l[j']?) he
   simp only[List.getElem?_map,h2,Option.map_some,Array.getElem?_toList] at hA
   cases hE:es[j']? with
   |none=>rw[hE] at hA;simp at hA
   |some e=>
    rw[hE] at hA
    simp only[Option.map_some,Option.some.injEq,Prod.mk.injEq] at hA
    rw[Option.map_some,hA.1,h3]
  refine l_void rfl rfl (FC (f.eval hx) (f.eval hk) (f.eval hv) ht hq hg h1 (fun j v hc=>by
   simp only[Option.some.injEq,Prod.mk.injEq,Nat.zero_add] at hc
   rw[←hc.1];exact hkey)) ?_
  refine k _ (M.set j' (i,y)) _ (fun kv' hkv=> ?_) (hmem _) ⟨b,_,_,rfl,rfl,?_⟩
  ·rcases List.mem_or_eq_of_mem_set hkv with h|h
   ·exact .inr h
   ·exact .inl h
  ·refine List.ext_getElem? fun p=> ?_
   have hA:=congrArg (fun l=>l[p]?) he
   simp only[List.getElem?_map,Array.getElem?_toList] at hA
   simp only[List.getElem?_map,Array.getElem?_toList,Array.getElem?_modify,List.getElem?_set,Nat.zero_add]
   by_cases hp:j'=p
   ·subst hp
    rw[if_pos rfl,if_pos rfl,if_pos (by rw[←hlen];exact hjl)]
    have:j'<es.size:=by simpa using hjl
    simp[this]
   ·rw[if_neg hp,if_neg hp]
    exact hA
end
end Go.Sx

set_option maxRecDepth 100000
namespace Go.Proofs.YtkffjeaefgfnnaaGreatDoor
open Go Go.Sx
theorem hT67 :SlT Tryz.prog 67 3 1 8 (.int .i64 0):=⟨Tryz.underlying67,Tryz.t3,by kernel_rfl,by kernel_rfl,by kernel_rfl,by kernel_rfl⟩
theorem hP3 :B9 Tryz.prog 3:=Tryz.isAgg3
theorem hP61 :B9 Tryz.prog 61:=Tryz.isAgg61
theorem hP83 :B9 Tryz.prog 83:=Tryz.isAgg83
abbrev wPtr (b:Nat):Value:= .pointer (some ⟨b,0,none⟩)
abbrev BO (b:Nat)(va vm:Value):Itm:=Itm.box b 85 [va,vm]
theorem OwMp.cells {β:Type}{q:IntKind}{enc:β→Value}{it:Itm}{v:Value}{M:List (Int×β)}(h:OwMp q enc it v M):v.cells= #[v]:=by
 obtain⟨b,es,clock,rfl,rfl,_⟩:=h;rfl
theorem Wk.a2 {W w:World}{G:GH}{H:List Itm}{v0:Value}{x0:List Int}(m:Mem W G w H)(h0:RSl (RI .u32) G v0 x0):
  Calls Tryz.prog 32 #[v0] w (Res W G H (fun G' Ho v=>∃(bx:Nat) (vm:Value) (itM:Itm),Ho=[BO bx v0 vm,itM]∧v=wPtr bx∧OwMp .u32 (Value.int .i64) itM vm [])):=by
 refine Aq (args:=[v0]) (N:=7) [.tmp 2] Tryz.func32 rfl rfl (Nat.le_of_ble_eq_true rfl) rfl (fun a f=> ?_)
 refine Af ?_
 refine Ah ?_
 refine AP f rfl rfl rfl (A5 (f.eval rfl)) (fun a f=> ?_)
 refine Aa ?_
 refine Af ?_
 refine Ah ?_
 refine AP f rfl rfl rfl (AM (f.eval rfl)) (fun a f=> ?_)
 refine l_makeMap .u32 (Value.int .i64) m f rfl (fun itM vm w a m oM f=> ?_)
 have hb:∀w,(Instr.build 85 #[(0,v0),(1,vm)]).run Tryz.prog w= .ok (.agg #[v0,vm]) w:=by intro w;simp[Instr.build,Instr.fill,h0.cells,OwMp.cells oM,Ch]
 refine CL f rfl rfl hb (fun a f=> ?_)
 refine Bm (cs:=[v0,vm]) m f rfl rfl rfl (fun bx w a m f=> ?_)
 refine AP f rfl rfl rfl (A5 (f.eval rfl)) (fun a f=> ?_)
 refine Aa ?_
 refine Ao ?_
 exact⟨[wPtr bx],⟨f.get _ _ rfl,trivial⟩,f.defers,G,[BO bx v0 vm,itM],GLe.refl _,m,_,_,_,rfl,rfl,oM⟩
def AfterOk (W:World)(F:List Int)(n:Nat):Prop:=∀(w:World) (G:GH) (H:List Itm) (bx:Nat) (va vm:Value) (itM:Itm) (M:List (Int×Int)) (k y:Int) (m:Mem W G w (BO bx va vm::itM::H)) (h0:RSl (RI .u32) G va F) (oM:OwMp .u32 (Value.int .i64) itM vm M) (hc:DI F M) (hd:D.l n F k=some y),
 Calls Tryz.prog 34 #[wPtr bx,(.int .u32 k)] w (Res W G H (fun G' Ho v=>∃(it':Itm) (M':List (Int×Int)),Ho=[BO bx va vm,it']∧v= .int .i64 y∧OwMp .u32 (Value.int .i64) it' vm M'∧DI F M'))
theorem AfterOk.go {W:World}{F:List Int}{n:Nat}(h:AfterOk W F n){w:World}{G:GH}{H:List Itm}{bx:Nat}{va vm:Value}{itM:Itm}{M:List (Int×Int)}{k y:Int}(m:Mem W G w (BO bx va vm::itM::H))(h0:RSl (RI .u32) G va F)(oM:OwMp .u32 (Value.int .i64) itM vm M)(hc:DI F M)(hd:D.l n F k=some y):
 Calls Tryz.prog 34 #[wPtr bx,(.int .u32 k)] w (Res W G H (fun G' Ho v=>∃(it':Itm) (M':List (Int×Int)),Ho=[BO bx va vm,it']∧v= .int .i64 y∧OwMp .u32 (Value.int .i64) it' vm M'∧DI F M')):=h _ _ _ _ _ _ _ _ _ _ m h0 oM hc hd
set_option maxHeartbeats 1000000 in
theorem Wk.U1 {W:World}(hW:CW W){F:List Int}{n:Nat}(ih:AfterOk W F n){w:World}{G:GH}{H:List Itm}{bx:Nat}{va vm:Value}{itM:Itm}{M:List (Int×Int)}{k v y:Int}(m:Mem W G w (BO bx va vm::itM::H))(h0:RSl (RI .u32) G va F)(oM:OwMp .u32 (Value.int .i64) itM vm M)(hc:DI F M)(hd:D.a0 (D.l n F) F k v=some y):
  Calls Tryz.prog 55 #[wPtr bx,(.int .u32 k),(.int .i64 v)] w (Res W G H (fun G' Ho r=>∃(it':Itm) (M':List (Int×Int)),Ho=[BO bx va vm,it']∧r= .int .i64 y∧OwMp .u32 (Value.int .i64) it' vm M'∧DI F M')):=by
 refine Aq (args:=[wPtr bx,(.int .u32 k),(.int .i64 v)]) (N:=22) [.tmp 6] Tryz.func55 rfl rfl (Nat.le_of_ble_eq_true rfl) rfl (fun a f=> ?_)
 unfold D.a0 at hd
 obtain⟨b,hb,hd⟩:=bind_some hd
 obtain⟨s,hs,hd⟩:=bind_some hd
 obtain⟨o,ho,hd⟩:=bind_some hd
 obtain⟨t,ht,hd⟩:=bind_some hd
 obtain rfl:=Option.some.inj hd
 refine Af ?_
 refine Ah ?_
 refine AP f rfl rfl rfl (A5 (f.eval rfl)) (fun a f=> ?_)
 refine Aa ?_
 refine Af ?_
 refine Ah ?_
 refine AP f rfl rfl rfl (AM (f.eval rfl)) (fun a f=> ?_)
 refine AP f rfl rfl rfl (By (f.eval rfl)) (fun a f=> ?_)
 refine CV Tryz.underlying85 rfl Tryz.sizeOf61 (by decide) f rfl rfl (fun a f=> ?_)
 refine Ay 0 0 m hP61 f rfl rfl rfl rfl (fun a f=> ?_)
 refine AP f rfl rfl rfl (AM (f.eval rfl)) (fun a f=> ?_)
 refine AP f rfl rfl rfl (AM (f.eval rfl)) (fun a f=> ?_)
 refine CC f rfl rfl Tryz.call92 (Wk.R hW m h0 hb) (fun v1 G1 Ho1 w hl1 m hQ1 a f=> ?_)
 obtain⟨rfl,rfl⟩:=hQ1
 have h0:=RSl.mono (RI.mono _) _ _ _ _ hl1 h0
 have m:Mem W G1 w (BO bx va vm::itM::H):=m
 refine CC f rfl rfl Tryz.call93 (Wk.C0 m hs) (fun v2 G2 Ho2 w hl2 m hQ2 a f=> ?_)
 obtain⟨rfl,rfl⟩:=hQ2
 have h0:=RSl.mono (RI.mono _) _ _ _ _ hl2 h0
 have m:Mem W G2 w (BO bx va vm::itM::H):=m
 refine AP f rfl rfl rfl (AM (f.eval rfl)) (fun a f=> ?_)
 refine AP f rfl rfl rfl (AM (f.eval rfl)) (fun a f=> ?_)
 refine AP f rfl rfl rfl (AM (f.eval rfl)) (fun a f=> ?_)
 refine CC f rfl rfl Tryz.call56 (Wk.d m ho) (fun v3 G3 Ho3 w hl3 m hQ3 a f=> ?_)
 obtain⟨rfl,rfl⟩:=hQ3
 have h0:=RSl.mono (RI.mono _) _ _ _ _ hl3 h0
 have m:Mem W G3 w (BO bx va vm::itM::H):=m
 refine AP f rfl rfl rfl (AL (f.eval rfl) (f.eval rfl) b_or) (fun a f=> ?_)
 refine CC f rfl rfl Tryz.call34 (ih.go m h0 oM hc ht) (fun v4 G4 Ho4 w hl4 m hQ4 a f=> ?_)
 obtain⟨it',M',rfl,rfl,oM',hc'⟩:=hQ4
 have m:Mem W G4 w (BO bx va vm::it'::H):=m
 refine AP f rfl rfl rfl (r_max2 (f.eval rfl) (f.eval rfl)) (fun a f=> ?_)
 refine AP f rfl rfl rfl (A5 (f.eval rfl)) (fun a f=> ?_)
 refine Aa ?_
 refine Ao ?_
 exact⟨[.int .i64 (if s<t then t else s)],⟨f.get _ _ rfl,trivial⟩,f.defers,G4,[BO bx va vm,it'],GLe.trans hl1 (GLe.trans hl2 (GLe.trans hl3 hl4)),m,_,_,rfl,rfl,oM',hc'⟩
set_option maxHeartbeats 2000000 in
theorem Wk.M1 {W:World}(hW:CW W){F:List Int}:∀n:Nat,AfterOk W F n
 |0=>by intro w G H bx va vm itM M k y m h0 oM hc hd;simp[D.l] at hd
 |n+1=>by
  have ih:=Wk.M1 hW (F:=F) n
  intro w G H bx va vm itM M k y m h0 oM hc hd
  have hd0:=hd
  refine Aq (args:=[wPtr bx,(.int .u32 k)]) (N:=55) [.tmp 4] Tryz.func34 rfl rfl (Nat.le_of_ble_eq_true rfl) rfl (fun a f=> ?_)
  unfold D.l at hd
  obtain⟨all,ha,hd⟩:=bind_some hd
  refine Af ?_
  refine Ah ?_
  refine AP f rfl rfl rfl (A5 (f.eval rfl)) (fun a f=> ?_)
  refine Aa ?_
  refine Af ?_
  refine Af ?_
  refine Ah ?_
  refine AP f rfl rfl rfl (AM (f.eval rfl)) (fun a f=> ?_)
  refine AP f rfl rfl rfl (AM (f.eval rfl)) (fun a f=> ?_)
  refine AP f rfl rfl rfl (By (f.eval rfl)) (fun a f=> ?_)
  refine CV Tryz.underlying85 rfl Tryz.sizeOf61 (by decide) f rfl rfl (fun a f=> ?_)
  refine Ay 0 0 m hP61 f rfl rfl rfl rfl (fun a f=> ?_)
  refine CC f rfl rfl Tryz.call71 (Wk.o m h0 ha) (fun v1 G1 Ho1 w hl1 m hQ1 a f=> ?_)
  obtain⟨rfl,rfl⟩:=hQ1
  have h0:=RSl.mono (RI.mono _) _ _ _ _ hl1 h0
  have m:Mem W G1 w (BO bx va vm::itM::H):=m
  refine AP f rfl rfl rfl (AL (f.eval rfl) (f.eval rfl) BH) (fun a f=> ?_)
  refine Aa ?_
  rcases Ae hd with⟨hc1,hd⟩|⟨hc1,hd⟩
  ·obtain rfl:=Option.some.inj hd
   refine Ak f rfl hc1 ?_
   refine Af ?_
   refine Ah ?_
   refine AP f rfl rfl rfl (A5 (f.eval rfl)) (fun a f=> ?_)
   refine Aa ?_
   refine Ao ?_
   exact⟨[.int .i64 0],⟨f.get _ _ rfl,trivial⟩,f.defers,G1,[BO bx va vm,itM],hl1,m,_,_,rfl,rfl,oM,hc⟩
  ·refine Ag f rfl hc1 ?_
   refine Al ?_
   obtain⟨us,hus,hd⟩:=bind_some hd
   refine Af ?_
   refine Af ?_
   refine Ah ?_
   refine AP f rfl rfl rfl (AM (f.eval rfl)) (fun a f=> ?_)
   refine AP f rfl rfl rfl (By (f.eval rfl)) (fun a f=> ?_)
   refine CV Tryz.underlying85 rfl Tryz.sizeOf83 (by decide) f rfl rfl (fun a f=> ?_)
   refine Ay 0 1 m hP83 f rfl rfl rfl rfl (fun a f=> ?_)
   refine AP f rfl rfl rfl (AM (f.eval rfl)) (fun a f=> ?_)
   refine l_lookup2 1 m oM rfl Tryz.underlying83 Tryz.underlying65 Tryz.zeroValue3 f rfl rfl rfl (fun o ho a f=> ?_)
   refine AP f rfl rfl rfl (AM (f.eval rfl)) (fun a f=> ?_)
   refine AP f rfl rfl rfl (A9 (f.eval rfl) rfl) (fun a f=> ?_)
   refine AP f rfl rfl rfl (A9 (f.eval rfl) rfl) (fun a f=> ?_)
   refine AP f rfl rfl rfl (A5 (f.eval rfl)) (fun a f=> ?_)
   refine AP f rfl rfl rfl (A5 (f.eval rfl)) (fun a f=> ?_)
   refine Aa ?_
   refine Af ?_
   refine Ah ?_
   refine AP f rfl rfl rfl (AM (f.eval rfl)) (fun a f=> ?_)
   refine Aa ?_
   cases o with
   |some z=>
    obtain⟨n',hn'⟩:=hc _ (ho z rfl)
    have hzy:z=y:=wAfterR_det hn' hd0
    subst hzy
    refine Ak f rfl rfl ?_
    refine Af ?_
    refine Ah ?_
    refine AP f rfl rfl rfl (AM (f.eval rfl)) (fun a f=> ?_)
    refine AP f rfl rfl rfl (A5 (f.eval rfl)) (fun a f=> ?_)
    refine Aa ?_
    refine Ao ?_
    exact⟨[.int .i64 z],⟨f.get _ _ rfl,trivial⟩,f.defers,G1,[BO bx va vm,itM],hl1,m,_,_,rfl,rfl,oM,hc⟩
   |none=>
    refine Ag f rfl rfl ?_
    refine Al ?_
    refine Af ?_
    refine Ah ?_
    refine AP f rfl rfl rfl (A5 (f.eval rfl)) (fun a f=> ?_)
    refine Aa ?_
    refine Af ?_
    refine Af ?_
    refine Ah ?_
    refine AP f rfl rfl rfl (AM (f.eval rfl)) (fun a f=> ?_)
    refine AP f rfl rfl rfl (By (f.eval rfl)) (fun a f=> ?_)
    refine CV Tryz.underlying85 rfl Tryz.sizeOf61 (by decide) f rfl rfl (fun a f=> ?_)
    refine Ay 0 0 m hP61 f rfl rfl rfl rfl (fun a f=> ?_)
    refine CC f rfl rfl Tryz.call71 (Wk.o m h0 ha) (fun v2 G2 Ho2 w hl2 m hQ2 a f=> ?_)
    obtain⟨rfl,rfl⟩:=hQ2
    have h0:=RSl.mono (RI.mono _) _ _ _ _ hl2 h0
    have m:Mem W G2 w (BO bx va vm::itM::H):=m
    refine AP f rfl rfl rfl (AM (f.eval rfl)) (fun a f=> ?_)
    refine AP f rfl rfl rfl (AL (f.eval rfl) (f.eval rfl) C7) (fun a f=> ?_)
    refine CC f rfl rfl Tryz.call72 (Wk.i hW m hus) (fun v3 G3 Ho3 w hl3 m hQ3 a f=> ?_)
    obtain⟨vu,itu,rfl,rfl,ou⟩:=hQ3
    have h0:=RSl.mono (RI.mono _) _ _ _ _ hl3 h0
    have m:Mem W G3 w (itu::BO bx va vm::itM::H):=m
    obtain⟨G4,hl4,m,hu⟩:=ou.stamp (RI.mono _) m
    have h0:=RSl.mono (RI.mono _) _ _ _ _ hl4 h0
    refine AT Tryz.underlying67 f rfl rfl hu (fun a f=> ?_)
    refine AP f rfl rfl rfl (AM (f.eval rfl)) (fun a f=> ?_)
    refine Aa ?_
    have hle4:GLe G G4:=GLe.trans hl1 (GLe.trans hl2 (GLe.trans hl3 hl4))
    refine AF (fun a w=>∃(G':GH) (it':Itm) (M':List (Int×Int)),GLe G4 G'∧Fr a 55 [(0,wPtr bx),(1,(.int .u32 k)),(7,(.int .i64 y))]∧Mem W G' w (BO bx va vm::it'::H)∧OwMp .u32 (Value.int .i64) it' vm M'∧DI F M') ?_ ?_
    ·refine Aj ?_
     refine AC (fun(s:Int×Int) a w=>∃(G':GH) (it':Itm) (M':List (Int×Int)),GLe G4 G'∧Fr a 55 [(0,wPtr bx),(1,(.int .u32 k)),(7,(.int .i64 s.1)),(35,vu),(36,(.int .i64 (us.length:Int))),(37,(.int .i64 s.2))]∧Mem W G' w (BO bx va vm::it'::H)∧OwMp .u32 (Value.int .i64) it' vm M'∧DI F M') hd ⟨_,_,_,GLe.refl _,f.weak ⟨rfl,rfl,rfl,rfl,rfl,rfl,trivial⟩,m,oM,hc⟩ ?_
     clear hd f m oM hc ho
     rintro⟨best,i⟩ o hs hqq a w ⟨G5,itM,M,hl5,f,m,oM,hc⟩
     dsimp only at f
     have h0:=RSl.mono (RI.mono _) _ _ _ _ hl5 h0
     have hu:=RSl.mono (RI.mono _) _ _ _ _ hl5 hu
     unfold D.A0 at hs
     dsimp only at hs
     refine Af ?_
     refine Ah ?_
     refine AP f rfl rfl rfl (AL (f.eval rfl) (f.eval rfl) AA) (fun a f=> ?_)
     refine Aa ?_
     refine Af ?_
     rcases Ae hs with⟨hc2,hs⟩|⟨hc2,hs⟩
     ·refine Ak f rfl hc2 ?_
      refine Al ?_
      obtain⟨v,hv,hs⟩:=bind_some hs
      obtain⟨z,hz,hs⟩:=bind_some hs
      obtain rfl:=Option.some.inj hs
      refine Af ?_
      refine Aj ?_
      refine Af ?_
      refine Ah ?_
      refine AZ hT67 f rfl rfl rfl hu hv (fun p6 c6 a g6 h6 f=> ?_)
      subst h6
      refine Au m hP3 f rfl rfl g6 (fun a f=> ?_)
      refine AP f rfl rfl rfl (A5 (f.eval rfl)) (fun a f=> ?_)
      refine Aa ?_
      refine Ah ?_
      refine AP f rfl rfl rfl (AM (f.eval rfl)) (fun a f=> ?_)
      refine AP f rfl rfl rfl (AM (f.eval rfl)) (fun a f=> ?_)
      refine AP f rfl rfl rfl (AM (f.eval rfl)) (fun a f=> ?_)
      refine AP f rfl rfl rfl (AM (f.eval rfl)) (fun a f=> ?_)
      refine CC f rfl rfl Tryz.call55 (Wk.U1 hW ih m h0 oM hc hz) (fun v7 G7 Ho7 w hl7 m hQ7 a f=> ?_)
      obtain⟨itM,M,rfl,rfl,oM,hc⟩:=hQ7
      have m:Mem W G7 w (BO bx va vm::itM::H):=m
      refine AP f rfl rfl rfl (r_min2 (f.eval rfl) (f.eval rfl)) (fun a f=> ?_)
      refine AP f rfl rfl rfl (A5 (f.eval rfl)) (fun a f=> ?_)
      refine Aa ?_
      refine Ah ?_
      refine AP f rfl rfl rfl (AL (f.eval rfl) (f.eval rfl) As) (fun a f=> ?_)
      refine AP f rfl rfl rfl (AM (f.eval rfl)) (fun a f=> ?_)
      refine Aa ?_
      exact⟨_,rfl,G7,_,_,GLe.trans hl5 hl7,f.weak ⟨rfl,rfl,rfl,rfl,rfl,rfl,trivial⟩,m,oM,hc⟩
     ·refine Ag f rfl hc2 ?_
      refine Aw rfl ?_
      obtain rfl:=Option.some.inj hs
      obtain rfl:=hqq _ rfl
      exact⟨G5,_,_,hl5,f.weak ⟨rfl,rfl,rfl,trivial⟩,m,oM,hc⟩
    ·clear hd f m oM hc ho
     rintro a w ⟨G5,itM,M,hl5,f,m,oM,hc⟩
     refine Af ?_
     refine Ah ?_
     refine AP f rfl rfl rfl (AM (f.eval rfl)) (fun a f=> ?_)
     refine AP f rfl rfl rfl (By (f.eval rfl)) (fun a f=> ?_)
     refine CV Tryz.underlying85 rfl Tryz.sizeOf83 (by decide) f rfl rfl (fun a f=> ?_)
     refine Ay 0 1 m hP83 f rfl rfl rfl rfl (fun a f=> ?_)
     refine AP f rfl rfl rfl (AM (f.eval rfl)) (fun a f=> ?_)
     refine AP f rfl rfl rfl (AM (f.eval rfl)) (fun a f=> ?_)
     refine l_mapUpdate 1 m oM rfl Tryz.underlying83 Tryz.underlying65 f rfl rfl rfl (fun it' M' w hM' m oM=> ?_)
     have m:Mem W G5 w (BO bx va vm::it'::H):=m
     refine Aa ?_
     refine Af ?_
     refine Ah ?_
     refine AP f rfl rfl rfl (AM (f.eval rfl)) (fun a f=> ?_)
     refine AP f rfl rfl rfl (A5 (f.eval rfl)) (fun a f=> ?_)
     refine Aa ?_
     refine Ao ?_
     exact⟨[.int .i64 y],⟨f.get _ _ rfl,trivial⟩,f.defers,G5,[BO bx va vm,it'],GLe.trans hle4 hl5,m,_,_,rfl,rfl,oM,fun kv hkv=>by
      rcases hM' kv hkv with rfl|h
      ·exact⟨n+1,hd0⟩
      ·exact hc kv h⟩
end Go.Proofs.YtkffjeaefgfnnaaGreatDoor

set_option maxRecDepth 100000
namespace Go.Proofs.YtkffjeaefgfnnaaGreatDoor
open Go Go.Sx
theorem Mem.third {W:World}{G:GH}{w:World}{a b c:Itm}{H:List Itm}(m:Mem W G w (a::b::c::H)):Mem W G w (b::c::a::H):=
 Mem.flip (A:=[b]) m.swap
set_option maxHeartbeats 2000000 in
theorem Wk.z0 {W w:World}{G:GH}{H:List Itm}{v0:Value}{x0:List Int}(hW:CW W)(m:Mem W G w H)(h0:RSl (RI .u32) G v0 x0){y:List Int}(hd:D.z0 x0=some y):
  Calls Tryz.prog 36 #[v0] w (Res W G H (fun G' Ho v=>∃r0:Value,∃i0:Itm,Ho=[i0]∧r0=v∧Ow (RI .i64) 3 G' i0 r0 y)):=by
 refine Aq (args:=[v0]) (N:=44) [.tmp 2] Tryz.func36 rfl rfl (Nat.le_of_ble_eq_true rfl) rfl (fun a f=> ?_)
 unfold D.z0 at hd
 obtain⟨most,hmost,hd⟩:=bind_some hd
 refine Af ?_
 refine Ah ?_
 refine AP f rfl rfl rfl (A5 (f.eval rfl)) (fun a f=> ?_)
 refine Aa ?_
 refine Af ?_
 refine Ah ?_
 refine AP f rfl rfl rfl (AM (f.eval rfl)) (fun a f=> ?_)
 refine CC f rfl rfl Tryz.call32 (Wk.a2 m h0) (fun v1 G1 Ho1 w hl1 m hQ1 a f=> ?_)
 obtain⟨bx,vm,itM,rfl,rfl,oM⟩:=hQ1
 have h0:=RSl.mono (RI.mono _) _ _ _ _ hl1 h0
 have m:Mem W G1 w (BO bx v0 vm::itM::H):=m
 refine A7 (R:=(RI .i64)) (xs:=([]:List Int)) (RI.one _) m hT67 f rfl rfl rfl (by decide) (All2.nil _) (fun io vo w a m oo f=> ?_)
 refine AP f rfl rfl rfl (A5 (f.eval rfl)) (fun a f=> ?_)
 refine AP f rfl rfl rfl (A5 (f.eval rfl)) (fun a f=> ?_)
 refine AP f rfl rfl rfl (A5 (f.eval rfl)) (fun a f=> ?_)
 refine Aa ?_
 have m:Mem W G1 w (BO bx v0 vm::itM::io::H):=Mem.third m
 refine Af ?_
 refine Ah ?_
 refine AP f rfl rfl rfl (AM (f.eval rfl)) (fun a f=> ?_)
 refine CC f rfl rfl Tryz.call34 ((Wk.M1 hW BW).go m h0 oM (fun kv h=>by simp at h) hmost) (fun v2 G2 Ho2 w hl2 m hQ2 a f=> ?_)
 obtain⟨itM,M,rfl,rfl,oM,hc⟩:=hQ2
 have h0:=RSl.mono (RI.mono _) _ _ _ _ hl2 h0
 have oo:=Ow.mono (RI.mono _) hl2 oo
 have m:Mem W G2 w (BO bx v0 vm::itM::io::H):=m
 refine AP f rfl rfl rfl (A5 (f.eval rfl)) (fun a f=> ?_)
 refine Aa ?_
 have hle2:GLe G G2:=GLe.trans hl1 hl2
 refine Af ?_
 refine AF (fun a w=>∃(G':GH) (vo:Value) (io it':Itm),GLe G2 G'∧Fr a 44 [(4,vo)]∧Mem W G' w (BO bx v0 vm::it'::io::H)∧Ow (RI .i64) 3 G' io vo y) ?_ ?_
 ·refine Aj ?_
  refine AC (fun(s:List Int×Int) a w=>∃(G':GH) (vo:Value) (io it':Itm) (M':List (Int×Int)),GLe G2 G'∧Fr a 44 [(0,v0),(3,wPtr bx),(4,vo),(5,(.int .u32 s.2)),(6,(.int .i64 most))]∧Mem W G' w (BO bx v0 vm::it'::io::H)∧Ow (RI .i64) 3 G' io vo s.1∧OwMp .u32 (Value.int .i64) it' vm M'∧DI x0 M') hd ⟨_,_,_,_,_,GLe.refl _,f.weak ⟨rfl,rfl,rfl,rfl,rfl,trivial⟩,m,oo,oM,hc⟩ ?_
  clear hd f m oo oM hc
  rintro⟨out,gone⟩ o hs hqq a w ⟨G3,vo,io,itM,M,hl3,f,m,oo,oM,hc⟩
  dsimp only at f oo
  have h0:=RSl.mono (RI.mono _) _ _ _ _ hl3 h0
  unfold D.v1 at hs
  dsimp only at hs
  obtain⟨all,ha,hs⟩:=bind_some hs
  refine Af ?_
  refine Af ?_
  refine Ah ?_
  refine AP f rfl rfl rfl (AM (f.eval rfl)) (fun a f=> ?_)
  refine AP f rfl rfl rfl (AM (f.eval rfl)) (fun a f=> ?_)
  refine CC f rfl rfl Tryz.call71 (Wk.o m h0 ha) (fun v4 G4 Ho4 w hl4 m hQ4 a f=> ?_)
  obtain⟨rfl,rfl⟩:=hQ4
  have h0:=RSl.mono (RI.mono _) _ _ _ _ hl4 h0
  have oo:=Ow.mono (RI.mono _) hl4 oo
  have m:Mem W G4 w (BO bx v0 vm::itM::io::H):=m
  refine AP f rfl rfl rfl (AL (f.eval rfl) (f.eval rfl) Cs) (fun a f=> ?_)
  refine Aa ?_
  rcases Ae hs with⟨hc1,hs⟩|⟨hc1,hs⟩
  ·refine Ak f rfl hc1 ?_
   refine Al ?_
   obtain⟨us,hus,hs⟩:=bind_some hs
   obtain⟨q,hq,hs⟩:=bind_some hs
   obtain rfl:=Option.some.inj hs
   refine Aj ?_
   refine Af ?_
   refine Ah ?_
   refine AP f rfl rfl rfl (AM (f.eval rfl)) (fun a f=> ?_)
   refine CC f rfl rfl Tryz.call71 (Wk.o m h0 ha) (fun v5 G5 Ho5 w hl5 m hQ5 a f=> ?_)
   obtain⟨rfl,rfl⟩:=hQ5
   have h0:=RSl.mono (RI.mono _) _ _ _ _ hl5 h0
   have oo:=Ow.mono (RI.mono _) hl5 oo
   have m:Mem W G5 w (BO bx v0 vm::itM::io::H):=m
   refine AP f rfl rfl rfl (AM (f.eval rfl)) (fun a f=> ?_)
   refine AP f rfl rfl rfl (AL (f.eval rfl) (f.eval rfl) C7) (fun a f=> ?_)
   refine CC f rfl rfl Tryz.call72 (Wk.i hW m hus) (fun v6 G6 Ho6 w hl6 m hQ6 a f=> ?_)
   obtain⟨vu,itu,rfl,rfl,ou⟩:=hQ6
   have h0:=RSl.mono (RI.mono _) _ _ _ _ hl6 h0
   have oo:=Ow.mono (RI.mono _) hl6 oo
   have m:Mem W G6 w (itu::BO bx v0 vm::itM::io::H):=m
   obtain⟨G7,hl7,m,hu⟩:=ou.stamp (RI.mono _) m
   have h0:=RSl.mono (RI.mono _) _ _ _ _ hl7 h0
   have oo:=Ow.mono (RI.mono _) hl7 oo
   refine AT Tryz.underlying67 f rfl rfl hu (fun a f=> ?_)
   refine AP f rfl rfl rfl (AM (f.eval rfl)) (fun a f=> ?_)
   refine Aa ?_
   have hle7:GLe G2 G7:=GLe.trans hl3 (GLe.trans hl4 (GLe.trans hl5 (GLe.trans hl6 hl7)))
   refine Aj ?_
   refine AC (fun(i:Int) a w=>∃(G':GH) (vo:Value) (io it':Itm) (M':List (Int×Int)),GLe G7 G'∧Fr a 44 [(0,v0),(3,wPtr bx),(4,vo),(5,(.int .u32 gone)),(6,(.int .i64 most)),(22,vu),(23,(.int .i64 (us.length:Int))),(24,(.int .i64 i))]∧Mem W G' w (BO bx v0 vm::it'::io::H)∧Ow (RI .i64) 3 G' io vo out∧OwMp .u32 (Value.int .i64) it' vm M'∧DI x0 M') hq ⟨_,_,_,_,_,GLe.refl _,f.weak ⟨rfl,rfl,rfl,rfl,rfl,rfl,rfl,rfl,trivial⟩,m,oo,oM,hc⟩ ?_
   clear hq f m oo oM hc
   rintro i o' hs' hqq' a w ⟨G8,vo,io,itM,M,hl8,f,m,oo,oM,hc⟩
   have h0:=RSl.mono (RI.mono _) _ _ _ _ hl8 h0
   have hu:=RSl.mono (RI.mono _) _ _ _ _ hl8 hu
   unfold D.z1 at hs'
   refine Af ?_
   refine Ah ?_
   refine AP f rfl rfl rfl (AL (f.eval rfl) (f.eval rfl) AA) (fun a f=> ?_)
   refine Aa ?_
   refine Af ?_
   rcases Ae hs' with⟨hc2,hs'⟩|⟨hc2,hs'⟩
   ·refine Ak f rfl hc2 ?_
    refine Al ?_
    obtain⟨v,hv,hs'⟩:=bind_some hs'
    obtain⟨z,hz,hs'⟩:=bind_some hs'
    refine Af ?_
    refine Aj ?_
    refine Af ?_
    refine Ah ?_
    refine AZ hT67 f rfl rfl rfl hu hv (fun p9 c9 a g9 h9 f=> ?_)
    subst h9
    refine Au m hP3 f rfl rfl g9 (fun a f=> ?_)
    refine AP f rfl rfl rfl (A5 (f.eval rfl)) (fun a f=> ?_)
    refine Aa ?_
    refine Af ?_
    refine Ah ?_
    refine AP f rfl rfl rfl (AM (f.eval rfl)) (fun a f=> ?_)
    refine AP f rfl rfl rfl (AM (f.eval rfl)) (fun a f=> ?_)
    refine AP f rfl rfl rfl (AM (f.eval rfl)) (fun a f=> ?_)
    refine CC f rfl rfl Tryz.call55 (Wk.U1 hW (Wk.M1 hW BW) m h0 oM hc hz) (fun v10 G10 Ho10 w hl10 m hQ10 a f=> ?_)
    obtain⟨itM,M,rfl,rfl,oM,hc⟩:=hQ10
    have h0:=RSl.mono (RI.mono _) _ _ _ _ hl10 h0
    have hu:=RSl.mono (RI.mono _) _ _ _ _ hl10 hu
    have oo:=Ow.mono (RI.mono _) hl10 oo
    have m:Mem W G10 w (BO bx v0 vm::itM::io::H):=m
    refine AP f rfl rfl rfl (AM (f.eval rfl)) (fun a f=> ?_)
    refine AP f rfl rfl rfl (AL (f.eval rfl) (f.eval rfl) CK) (fun a f=> ?_)
    refine Aa ?_
    rcases Ae hs' with⟨hc3,hs'⟩|⟨hc3,hs'⟩
    ·obtain⟨o2,ho2,hs'⟩:=bind_some hs'
     obtain⟨b,hb,hs'⟩:=bind_some hs'
     obtain rfl:=Option.some.inj hs'
     obtain rfl:=hqq' _ rfl
     refine Ak f rfl hc3 ?_
     refine Af ?_
     refine Ah ?_
     refine AP f rfl rfl rfl (AM (f.eval rfl)) (fun a f=> ?_)
     refine AP f rfl rfl rfl (AM (f.eval rfl)) (fun a f=> ?_)
     refine A7 (R:=(RI .i64)) (xs:=([v]:List Int)) (RI.one _) m hT67 f rfl rfl rfl (by decide) (All2.cons rfl (All2.nil _)) (fun is vs w a m os f=> ?_)
     refine Bh (RI.one _) 3 m oo rfl hT67 rfl (by decide) f rfl rfl rfl (os.src (j:=0) m rfl) ho2 (fun io vo w a m oo f=> ?_)
     have m:Mem W G10 w (BO bx v0 vm::itM::io::H):=Mem.tail m
     refine AP f rfl rfl rfl (A5 (f.eval rfl)) (fun a f=> ?_)
     refine Aa ?_
     refine Af ?_
     refine Ah ?_
     refine AP f rfl rfl rfl (AM (f.eval rfl)) (fun a f=> ?_)
     refine AP f rfl rfl rfl (AM (f.eval rfl)) (fun a f=> ?_)
     refine CC f rfl rfl Tryz.call56 (Wk.d m hb) (fun v11 G11 Ho11 w hl11 m hQ11 a f=> ?_)
     obtain⟨rfl,rfl⟩:=hQ11
     have oo:=Ow.mono (RI.mono _) hl11 oo
     have m:Mem W G11 w (BO bx v0 vm::itM::io::H):=m
     refine AP f rfl rfl rfl (AL (f.eval rfl) (f.eval rfl) b_or) (fun a f=> ?_)
     refine AP f rfl rfl rfl (A5 (f.eval rfl)) (fun a f=> ?_)
     refine Aa ?_
     refine Aw rfl ?_
     exact⟨_,rfl,G11,_,_,_,_,GLe.trans hle7 (GLe.trans hl8 (GLe.trans hl10 hl11)),f.weak ⟨rfl,rfl,rfl,rfl,rfl,trivial⟩,m,oo,oM,hc⟩
    ·obtain rfl:=Option.some.inj hs'
     refine Ag f rfl hc3 ?_
     refine Al ?_
     refine Ah ?_
     refine AP f rfl rfl rfl (AL (f.eval rfl) (f.eval rfl) As) (fun a f=> ?_)
     refine AP f rfl rfl rfl (AM (f.eval rfl)) (fun a f=> ?_)
     refine Aa ?_
     exact⟨_,rfl,G10,_,_,_,_,GLe.trans hl8 hl10,f.weak ⟨rfl,rfl,rfl,rfl,rfl,rfl,rfl,rfl,trivial⟩,m,oo,oM,hc⟩
   ·refine Ag f rfl hc2 ?_
    refine Aw rfl ?_
    obtain rfl:=Option.some.inj hs'
    obtain rfl:=hqq' _ rfl
    exact⟨_,rfl,G8,_,_,_,_,GLe.trans hle7 hl8,f.weak ⟨rfl,rfl,rfl,rfl,rfl,trivial⟩,m,oo,oM,hc⟩
  ·refine Ag f rfl hc1 ?_
   refine Aw rfl ?_
   obtain rfl:=Option.some.inj hs
   obtain rfl:=hqq _ rfl
   exact⟨G4,_,_,_,GLe.trans hl3 hl4,f.weak ⟨rfl,trivial⟩,m,oo⟩
 ·clear hd f m oo oM hc
  rintro a w ⟨G3,vo,io,itM,hl3,f,m,oo⟩
  refine Af ?_
  refine Ah ?_
  refine AP f rfl rfl rfl (AM (f.eval rfl)) (fun a f=> ?_)
  refine AP f rfl rfl rfl (A5 (f.eval rfl)) (fun a f=> ?_)
  refine Aa ?_
  refine Ao ?_
  exact⟨[vo],⟨f.get _ _ rfl,trivial⟩,f.defers,G3,[io],GLe.trans hle2 hl3,m.tail.tail,_,_,rfl,rfl,oo⟩
end Go.Proofs.YtkffjeaefgfnnaaGreatDoor
