/- Parts of the proof: QAW, QBW, QCW. -/
import Derived.Test.YtkffjeaefgfnnaaGreatDoorBd2
import Derived.Test.YtkffjeaefgfnnaaGreatDoorProg
import Derived.KernelRfl
set_option linter.unusedVariables false
set_option linter.unusedSimpArgs false
set_option linter.unusedSectionVars false
set_option maxRecDepth 100000
namespace Go.Proofs.YtkffjeaefgfnnaaGreatDoor
open Go Go.Sx
theorem AI :Tryz.prog.follows .mixedOrders=true:=by kernel_rfl
theorem Pl2 :B9 Tryz.prog 2:=Tryz.isAgg2
theorem T31 :SlT Tryz.prog 31 2 1 8 (.int .i64 0):=⟨Tryz.underlying31,Tryz.t2,by kernel_rfl,by kernel_rfl,by kernel_rfl,by kernel_rfl⟩
theorem Pl5 :B9 Tryz.prog 5:=Tryz.isAgg5
theorem Pl148 :B9 Tryz.prog 148:=Tryz.isAgg148
theorem T27 :SlT Tryz.prog 27 31 1 24 (.slice none 0 0):=⟨Tryz.underlying27,Tryz.t31,by kernel_rfl,by kernel_rfl,by kernel_rfl,by kernel_rfl⟩
theorem T60 :SlT Tryz.prog 60 65 1 4 (.int .u32 0):=⟨Tryz.underlying60,Tryz.t65,by kernel_rfl,by kernel_rfl,by kernel_rfl,by kernel_rfl⟩
theorem Wk.n1 {W w:World}{G:GH}{H:List Itm}{v0:Value}{x0:(List Int)}{x1:Int}(m:Mem W G w (H))(h0:RSl (RI .i64) G v0 x0){y:Int}(hd:D.n1 x0 x1=some y):
  Calls Tryz.prog 124 #[v0,(.int .i64 x1)] w (Res W G H (fun _ Ho v=>Ho=[]∧v=(.int .i64 y))):=by
 refine Aq (args:=[v0,(.int .i64 x1)]) (N:=19) [.tmp 4] Tryz.func124 Z Z (Nat.le_of_ble_eq_true Z) Z fun a f=> ?_
 unfold D.n1 at hd
 refine Ac ?_
 refine Ad f Z fun a f=>Aa (Af (Ac ?_))
 refine Ab f Z fun a f=>AT Tryz.underlying31 f Z Z h0 fun a f=>Ab f Z fun a f=>Aa ?_
 obtain⟨aa,ab,hd⟩:=bind_some hd
 refine AF (fun a w=>∃q_19':Unit,aa= .inl q_19'∧∃(ac:GH),GLe G ac∧Fr a 19 []∧Mem W ac w (H)) ?_ ?_
 ·refine Aj ?_
  refine AC (fun ad a w=>∃ae:Int,ae=ad∧∃(af:GH),GLe G af∧Fr a 19 [(0,v0),(1,(.int .i64 x1)),(7,(.int .i64 (x0.length:Int))),(8,(.int .i64 ae))]∧Mem W af w (H)) ab ⟨_,Z,_,gr,f.k Z,m⟩ ?_
  clear ab f m
  rintro ad ag ah ai a w ⟨ae,rfl,af,aj,f,m⟩
  have h0:=rd1 aj h0
  refine Ac ?_
  refine Ai f Z Z AA fun a f=>Aa (Af ?_)
  rcases Ae ah with⟨ak,ah⟩|⟨ak,ah⟩
  ·refine Ak f Z ak ?_
   refine Al ?_
   refine Af (Aj (Ac ?_))
   refine Ab f Z fun a f=>Ad f Z fun a f=>Aa (Ac ?_)
   refine Ab f Z fun a f=>Ab f Z fun a f=>Ab f Z fun a f=> ?_
   obtain⟨al,am,ah⟩:=bind_some ah
   refine AZ T31 f Z Z Z h0 am fun an ao a ap aq f=> ?_
   subst aq
   refine Au m Pl2 f Z Z ap fun a f=>Ai f Z Z BH fun a f=>Aa ?_
   rcases Ae ah with⟨ar,ah⟩|⟨ar,ah⟩
   ·refine Ak f Z ar ?_
    refine Ac ?_
    refine Ab f Z fun a f=>Ad f Z fun a f=>Aa ?_
    refine Ao ?_
    obtain rfl:=sj ah
    obtain rfl:=ai _ rfl
    obtain rfl:=sj hd
    exact⟨[(.int .i64 ae)],⟨f.get _ _ Z,trivial⟩,f.defers,_,[],aj,m,Z,Z⟩
   ·refine Ag f Z ar ?_
    refine Al ?_
    refine Ah ?_
    refine Ai f Z Z As fun a f=>Ab f Z fun a f=>Aa ?_
    obtain rfl:=sj ah
    exact⟨_,Z,_,Z,_,aj,f.k Z,m⟩
  ·refine Ag f Z ak ?_
   refine Aw Z ?_
   obtain rfl:=sj ah
   obtain rfl:=ai _ rfl
   exact⟨_,Z,_,aj,f.weak trivial,m⟩
 ·rintro a w ⟨_,rfl,ac,au,f,m⟩
  refine Ac ?_
  refine Ad f Z fun a f=>Aa ?_
  refine Ao ?_
  obtain rfl:=sj hd
  exact⟨[(.int .i64 (-1))],⟨f.get _ _ Z,trivial⟩,f.defers,_,[],au,m,Z,Z⟩
theorem Wk.U {W w:World}{G:GH}{H:List Itm}{v0:Value}{x0:(List Int)}{x1:Int}(m:Mem W G w (H))(h0:RSl (RI .i64) G v0 x0){y:Bool}(hd:D.U x0 x1=some y):
  Calls Tryz.prog 105 #[v0,(.int .i64 x1)] w (Res W G H (fun _ Ho v=>Ho=[]∧v=(.bool y))):=by
 refine Aq (args:=[v0,(.int .i64 x1)]) (N:=9) [.tmp 4] Tryz.func105 Z Z (Nat.le_of_ble_eq_true Z) Z fun a f=> ?_
 unfold D.U at hd
 refine Ac ?_
 refine Ad f Z fun a f=>Aa (Ac ?_)
 refine Ab f Z fun a f=>Ab f Z fun a f=> ?_
 obtain⟨aa,ab,hd⟩:=bind_some hd
 refine Bc f Z Tryz.call124 (Wk.n1 m h0 ab) fun ac w ad m a f=> ?_
 have h0:=rd1 ad h0
 refine Ai f Z Z Cz fun a f=>Ad f Z fun a f=>Aa ?_
 refine Ao ?_
 obtain rfl:=sj hd
 exact⟨[(.bool (decide ((0:Int)≤aa)))],⟨f.get _ _ Z,trivial⟩,f.defers,_,[],ad,m,Z,Z⟩
theorem Wk.r1 {W w:World}{G:GH}{H:List Itm}{x0:Int}(hW:CW W)(m:Mem W G w (H)){y:Int}(hd:D.r1 x0=some y):
  Calls Tryz.prog 125 #[(.int .u32 x0)] w (Res W G H (fun _ Ho v=>Ho=[]∧v=(.int .i64 y))):=by
 refine Aq (args:=[(.int .u32 x0)]) (N:=14) [.tmp 2] Tryz.func125 Z Z (Nat.le_of_ble_eq_true Z) Z fun a f=> ?_
 unfold D.r1 at hd
 refine Ac ?_
 refine Ad f Z fun a f=>Aa (Af (Ac ?_))
 refine Ab f Z fun a f=>Ai f Z Z BH fun a f=>Aa ?_
 rcases Ae hd with⟨aa,hd⟩|⟨aa,hd⟩
 ·refine Ak f Z aa ?_
  refine Ac ?_
  refine Ad f Z fun a f=>Aa ?_
  refine Ao ?_
  obtain rfl:=sj hd
  exact⟨[(.int .i64 32)],⟨f.get _ _ Z,trivial⟩,f.defers,_,[],gr,m,Z,Z⟩
 ·refine Ag f Z aa ?_
  refine Al ?_
  refine Ac ?_
  refine Ab f Z fun a f=>Ab f Z fun a f=>l_o f (r_neg (f.eval Z)) fun a f=>Ai f Z Z Er fun a f=>Ai f Z Z DW fun a f=>l_o f (r_shr (f.eval Z) (f.eval Z) (by decide)) fun a f=> ?_
  obtain⟨ab,ac,hd⟩:=bind_some hd
  refine l_tab hW m Tryz.underlying147 Tryz.sizeOf5 f Z Z ac fun ad a ae f=>Au m Pl5 f Z Z ae fun a f=>l_o f (EB (f.eval Z) ⟨_,Tryz.underlying5⟩ Tryz.underlying3) fun a f=>Ad f Z fun a f=>Aa ?_
  refine Ao ?_
  obtain rfl:=sj hd
  exact⟨[(.int .i64 (IntKind.i64.wrap ab))],⟨f.get _ _ Z,trivial⟩,f.defers,_,[],gr,m,Z,Z⟩
theorem Wk.K0 {W w:World}{G:GH}{H:List Itm}{x0:Int}(m:Mem W G w (H)){y:Int}(hd:D.K0 x0=some y):
  Calls Tryz.prog 120 #[(.int .u32 x0)] w (Res W G H (fun _ Ho v=>Ho=[]∧v=(.int .i64 y))):=by
 refine Aq (args:=[(.int .u32 x0)]) (N:=21) [.tmp 2] Tryz.func120 Z Z (Nat.le_of_ble_eq_true Z) Z fun a f=> ?_
 unfold D.K0 at hd
 refine Ac ?_
 refine Ad f Z fun a f=>Aa (Af ?_)
 refine AY 19 AI (by kernel_rfl) m ?_
 refine Am 0 19 Z f Z fun a f=>q_p 1 19 Z f (fun _=>r_shr (f.eval Z) (f.eval Z) (by decide)) fun a f=> ?_
 obtain⟨aa,ab,hd⟩:=bind_some hd
 refine q_p 2 19 Z f (fun _=>Fp (f.eval Z) (f.eval Z) Tryz.underlying9 ab) fun a f=>Am 3 19 Z f Z fun a f=>q_p 4 19 Z f (fun _=>r_shr (f.eval Z) (f.eval Z) (by decide)) fun a f=>q_p 5 19 Z f (fun _=>AL (f.eval Z) (f.eval Z) Er) fun a f=> ?_
 obtain⟨ac,ad,hd⟩:=bind_some hd
 refine q_p 6 19 Z f (fun _=>Fp (f.eval Z) (f.eval Z) Tryz.underlying9 ad) fun a f=>q_p 7 19 Z f (fun _=>AL (f.eval Z) (f.eval Z) As) fun a f=>Am 8 19 Z f Z fun a f=>q_p 9 19 Z f (fun _=>r_shr (f.eval Z) (f.eval Z) (by decide)) fun a f=>q_p 10 19 Z f (fun _=>AL (f.eval Z) (f.eval Z) Er) fun a f=> ?_
 obtain⟨ae,af,hd⟩:=bind_some hd
 refine q_p 11 19 Z f (fun _=>Fp (f.eval Z) (f.eval Z) Tryz.underlying9 af) fun a f=>q_p 12 19 Z f (fun _=>AL (f.eval Z) (f.eval Z) As) fun a f=>Am 13 19 Z f Z fun a f=>q_p 14 19 Z f (fun _=>AL (f.eval Z) (f.eval Z) Er) fun a f=> ?_
 obtain⟨ag,ah,hd⟩:=bind_some hd
 refine q_p 15 19 Z f (fun _=>Fp (f.eval Z) (f.eval Z) Tryz.underlying9 ah) fun a f=>q_p 16 19 Z f (fun _=>AL (f.eval Z) (f.eval Z) As) fun a f=>q_p 17 19 Z f (fun _=>EB (f.eval Z) ⟨_,Tryz.underlying5⟩ Tryz.underlying3) fun a f=>q_p 18 19 Z f (fun _=>A5 (f.eval Z)) fun a f=>AU fun ai w aj m=>Aa ?_
 refine Ao ?_
 obtain rfl:=sj hd
 exact⟨[(.int .i64 (IntKind.i64.wrap (IntKind.u8.wrap ((IntKind.u8.wrap ((IntKind.u8.wrap (aa+ac))+ae))+ag))))],⟨f.get _ _ Z,trivial⟩,f.defers,_,[],aj,m,Z,Z⟩
theorem Wk.A {W w:World}{G:GH}{H:List Itm}{x0:Int}(m:Mem W G w (H)){y:Int}(hd:D.A x0=some y):
  Calls Tryz.prog 138 #[(.int .i64 x0)] w (Res W G H (fun _ Ho v=>Ho=[]∧v=(.int .u64 y))):=by
 refine Aq (args:=[(.int .i64 x0)]) (N:=7) [.tmp 2] Tryz.func138 Z Z (Nat.le_of_ble_eq_true Z) Z fun a f=> ?_
 unfold D.A at hd
 refine Ac ?_
 refine Ad f Z fun a f=>Aa (Ac ?_)
 refine Ab f Z fun a f=>l_o f (EB (f.eval Z) ⟨_,Tryz.underlying3⟩ Tryz.underlying95) fun a f=> ?_
 obtain⟨aa,ab,hd⟩:=bind_some hd
 refine AK f Z Tryz.call109 (Wk.u m ab) fun ac ad ae w af m ag a f=> ?_
 obtain⟨rfl,rfl⟩:=ag
 obtain⟨ah,hd⟩:=E7 hd
 refine l_o f (r_shl (f.eval Z) (f.eval Z) ah) fun a f=>Ad f Z fun a f=>Aa ?_
 refine Ao ?_
 obtain rfl:=sj hd
 exact⟨[(.int .u64 (ishl .u64 1 aa))],⟨f.get _ _ Z,trivial⟩,f.defers,_,[],af,m,Z,Z⟩
theorem Wk.k0 {W w:World}{G:GH}{H:List Itm}{b0:Nat}{x0_0:Int}(m:Mem W G w (Itm.box b0 148 [(.int .u64 x0_0)]::H)){y:Int×Int}(hd:D.k0 x0_0=some y):
  Calls Tryz.prog 139 #[(.pointer (some ⟨b0,0,none⟩))] w (Res W G H (fun _ Ho v=>Ho=[Itm.box b0 148 [(.int .u64 y.2)]]∧v=(.int .u64 y.1))):=by
 refine Aq (args:=[(.pointer (some ⟨b0,0,none⟩))]) (N:=33) [.tmp 2] Tryz.func139 Z Z (Nat.le_of_ble_eq_true Z) Z fun a f=> ?_
 unfold D.k0 at hd
 refine Ac ?_
 refine Ad f Z fun a f=>Aa (Af ?_)
 refine AY 9 AI (by kernel_rfl) m ?_
 refine Am 0 9 Z f Z fun a f=>q_p 1 9 Z f (fun _=>By (f.eval Z)) fun a f=>BD 2 9 0 Pl148 Z Z Z f Z fun a f=>Am 3 9 Z f Z fun a f=>q_p 4 9 Z f (fun _=>By (f.eval Z)) fun a f=>BD 5 9 0 Pl148 Z Z Z f Z fun a f=>q_p 6 9 Z f (fun _=>r_shl (f.eval Z) (f.eval Z) (by decide)) fun a f=>q_p 7 9 Z f (fun _=>AL (f.eval Z) (f.eval Z) b_xor) fun a f=>q_p 8 9 Z f (fun _=>By (f.eval Z)) fun a f=>AU fun aa w ab m=>AG 0 0 (ds:=[(.int .u64 (A6 .u64 x0_0 (ishl .u64 x0_0 13)))]) m Tryz.sizeOf148 f Z Z Z (Av Z AS) Z (Nat.le_of_ble_eq_true Z) Z fun w m=>Aa (Af ?_)
 refine AY 9 AI (by kernel_rfl) m ?_
 refine Am 0 9 Z f Z fun a f=>q_p 1 9 Z f (fun _=>By (f.eval Z)) fun a f=>BD 2 9 0 Pl148 Z Z Z f Z fun a f=>Am 3 9 Z f Z fun a f=>q_p 4 9 Z f (fun _=>By (f.eval Z)) fun a f=>BD 5 9 0 Pl148 Z Z Z f Z fun a f=>q_p 6 9 Z f (fun _=>r_shr (f.eval Z) (f.eval Z) (by decide)) fun a f=>q_p 7 9 Z f (fun _=>AL (f.eval Z) (f.eval Z) b_xor) fun a f=>q_p 8 9 Z f (fun _=>By (f.eval Z)) fun a f=>AU fun ac w ad m=>AG 0 0 (ds:=[(.int .u64 (A6 .u64 (A6 .u64 x0_0 (ishl .u64 x0_0 13)) (BU .u64 (A6 .u64 x0_0 (ishl .u64 x0_0 13)) 7)))]) m Tryz.sizeOf148 f Z Z Z (Av Z AS) Z (Nat.le_of_ble_eq_true Z) Z fun w m=>Aa (Af ?_)
 refine AY 9 AI (by kernel_rfl) m ?_
 refine Am 0 9 Z f Z fun a f=>q_p 1 9 Z f (fun _=>By (f.eval Z)) fun a f=>BD 2 9 0 Pl148 Z Z Z f Z fun a f=>Am 3 9 Z f Z fun a f=>q_p 4 9 Z f (fun _=>By (f.eval Z)) fun a f=>BD 5 9 0 Pl148 Z Z Z f Z fun a f=>q_p 6 9 Z f (fun _=>r_shl (f.eval Z) (f.eval Z) (by decide)) fun a f=>q_p 7 9 Z f (fun _=>AL (f.eval Z) (f.eval Z) b_xor) fun a f=>q_p 8 9 Z f (fun _=>By (f.eval Z)) fun a f=>AU fun ae w af m=>AG 0 0 (ds:=[(.int .u64 (A6 .u64 (A6 .u64 (A6 .u64 x0_0 (ishl .u64 x0_0 13)) (BU .u64 (A6 .u64 x0_0 (ishl .u64 x0_0 13)) 7)) (ishl .u64 (A6 .u64 (A6 .u64 x0_0 (ishl .u64 x0_0 13)) (BU .u64 (A6 .u64 x0_0 (ishl .u64 x0_0 13)) 7)) 17)))]) m Tryz.sizeOf148 f Z Z Z (Av Z AS) Z (Nat.le_of_ble_eq_true Z) Z fun w m=>Aa (Ac ?_)
 refine Ab f Z fun a f=>l_o f (By (f.eval Z)) fun a f=>Ay 0 0 m Pl148 f Z Z Z Z fun a f=>Ad f Z fun a f=>Aa ?_
 refine Ao ?_
 obtain rfl:=sj hd
 exact⟨[(.int .u64 (A6 .u64 (A6 .u64 (A6 .u64 x0_0 (ishl .u64 x0_0 13)) (BU .u64 (A6 .u64 x0_0 (ishl .u64 x0_0 13)) 7)) (ishl .u64 (A6 .u64 (A6 .u64 x0_0 (ishl .u64 x0_0 13)) (BU .u64 (A6 .u64 x0_0 (ishl .u64 x0_0 13)) 7)) 17)))],⟨f.get _ _ Z,trivial⟩,f.defers,_,[Itm.box b0 148 [(.int .u64 (A6 .u64 (A6 .u64 (A6 .u64 x0_0 (ishl .u64 x0_0 13)) (BU .u64 (A6 .u64 x0_0 (ishl .u64 x0_0 13)) 7)) (ishl .u64 (A6 .u64 (A6 .u64 x0_0 (ishl .u64 x0_0 13)) (BU .u64 (A6 .u64 x0_0 (ishl .u64 x0_0 13)) 7)) 17)))]],(gt ab (gt ad af)),m,Z,Z⟩
theorem Wk.y {W w:World}{G:GH}{H:List Itm}{x0:Int}(m:Mem W G w (H)){y:Bool}(hd:D.y x0=some y):
  Calls Tryz.prog 136 #[(.int .i64 x0)] w (Res W G H (fun _ Ho v=>Ho=[]∧v=(.bool y))):=by
 refine Aq (args:=[(.int .i64 x0)]) (N:=6) [.tmp 2] Tryz.func136 Z Z (Nat.le_of_ble_eq_true Z) Z fun a f=> ?_
 unfold D.y at hd
 refine Ac ?_
 refine Ad f Z fun a f=>Aa (Ac ?_)
 refine Ab f Z fun a f=>Ab f Z fun a f=>Ai f Z Z Cs fun a f=>Ad f Z fun a f=>Aa ?_
 refine Ao ?_
 obtain rfl:=sj hd
 exact⟨[(.bool (x0 !=x0))],⟨f.get _ _ Z,trivial⟩,f.defers,_,[],gr,m,Z,Z⟩
theorem Wk.t0 {W w:World}{G:GH}{H:List Itm}{x0:Int}{x1:Int}(m:Mem W G w (H)){y:Int}(hd:D.t0 x0 x1=some y):
  Calls Tryz.prog 110 #[(.int .i64 x0),(.int .i64 x1)] w (Res W G H (fun _ Ho v=>Ho=[]∧v=(.int .i64 y))):=by
 refine Aq (args:=[(.int .i64 x0),(.int .i64 x1)]) (N:=20) [.tmp 4] Tryz.func110 Z Z (Nat.le_of_ble_eq_true Z) Z fun a f=> ?_
 unfold D.t0 at hd
 refine Ac ?_
 refine Ad f Z fun a f=>Aa (Ac ?_)
 refine Ab f Z fun a f=> ?_
 obtain⟨aa,ab,hd⟩:=bind_some hd
 refine Bc f Z Tryz.call136 (Wk.y m ab) fun ac w ad m a f=>Ad f Z fun a f=>Aa (Ac ?_)
 refine Ab f Z fun a f=> ?_
 obtain⟨ae,af,hd⟩:=bind_some hd
 refine Bc f Z Tryz.call136 (Wk.y m af) fun ag w ah m a f=>Ad f Z fun a f=>Aa (Af (Ac ?_))
 refine Ab f Z fun a f=>Aa ?_
 rcases Ae hd with⟨ai,hd⟩|⟨ai,hd⟩
 ·refine Ak f Z ai ?_
  refine Af (Ac ?_)
  refine Ab f Z fun a f=>Aa ?_
  rcases Ae hd with⟨aj,hd⟩|⟨aj,hd⟩
  ·refine Ak f Z aj ?_
   refine Ac ?_
   refine Ad f Z fun a f=>Aa ?_
   refine Ao ?_
   obtain rfl:=sj hd
   exact⟨[(.int .i64 0)],⟨f.get _ _ Z,trivial⟩,f.defers,_,[],(gt ad ah),m,Z,Z⟩
  ·refine Ag f Z aj ?_
   refine Al ?_
   refine Ac ?_
   refine Ad f Z fun a f=>Aa ?_
   refine Ao ?_
   obtain rfl:=sj hd
   exact⟨[(.int .i64 (-1))],⟨f.get _ _ Z,trivial⟩,f.defers,_,[],(gt ad ah),m,Z,Z⟩
 ·refine Ag f Z ai ?_
  refine Al ?_
  refine Af (Ac ?_)
  refine Ab f Z fun a f=>Aa ?_
  rcases Ae hd with⟨ak,hd⟩|⟨ak,hd⟩
  ·refine Ak f Z ak ?_
   refine Ac ?_
   refine Ad f Z fun a f=>Aa ?_
   refine Ao ?_
   obtain rfl:=sj hd
   exact⟨[(.int .i64 1)],⟨f.get _ _ Z,trivial⟩,f.defers,_,[],(gt ad ah),m,Z,Z⟩
  ·refine Ag f Z ak ?_
   refine Al ?_
   refine Af (Ac ?_)
   refine Ab f Z fun a f=>Ab f Z fun a f=>Ai f Z Z AA fun a f=>Aa ?_
   rcases Ae hd with⟨al,hd⟩|⟨al,hd⟩
   ·refine Ak f Z al ?_
    refine Ac ?_
    refine Ad f Z fun a f=>Aa ?_
    refine Ao ?_
    obtain rfl:=sj hd
    exact⟨[(.int .i64 (-1))],⟨f.get _ _ Z,trivial⟩,f.defers,_,[],(gt ad ah),m,Z,Z⟩
   ·refine Ag f Z al ?_
    refine Al ?_
    refine Af (Ac ?_)
    refine Ab f Z fun a f=>Ab f Z fun a f=>Ai f Z Z Cr fun a f=>Aa ?_
    rcases Ae hd with⟨am,hd⟩|⟨am,hd⟩
    ·refine Ak f Z am ?_
     refine Ac ?_
     refine Ad f Z fun a f=>Aa ?_
     refine Ao ?_
     obtain rfl:=sj hd
     exact⟨[(.int .i64 1)],⟨f.get _ _ Z,trivial⟩,f.defers,_,[],(gt ad ah),m,Z,Z⟩
    ·refine Ag f Z am ?_
     refine Al ?_
     refine Ac ?_
     refine Ad f Z fun a f=>Aa ?_
     refine Ao ?_
     obtain rfl:=sj hd
     exact⟨[(.int .i64 0)],⟨f.get _ _ Z,trivial⟩,f.defers,_,[],(gt ad ah),m,Z,Z⟩
theorem Wk.b {W w:World}{G:GH}{H:List Itm}{v0:Value}{v1:Value}{x0:(List Int)}{x1:(List Int)}(m:Mem W G w (H))(h0:RSl (RI .i64) G v0 x0)(h1:RSl (RI .i64) G v1 x1){y:Int}(hd:D.b x0 x1=some y):
  Calls Tryz.prog 76 #[v0,v1] w (Res W G H (fun _ Ho v=>Ho=[]∧v=(.int .i64 y))):=by
 refine Aq (args:=[v0,v1]) (N:=36) [.tmp 4] Tryz.func76 Z Z (Nat.le_of_ble_eq_true Z) Z fun a f=> ?_
 unfold D.b at hd
 refine Ac ?_
 refine Ad f Z fun a f=>Aa (Af (Ac ?_))
 refine Ab f Z fun a f=>AT Tryz.underlying31 f Z Z h0 fun a f=>Ab f Z fun a f=>Aa ?_
 obtain⟨aa,ab,hd⟩:=bind_some hd
 refine AF (fun a w=>∃q_47':Unit,aa= .inl q_47'∧∃(ac:GH),GLe G ac∧Fr a 36 [(0,v0),(1,v1)]∧Mem W ac w (H)) ?_ ?_
 ·refine Aj ?_
  refine AC (fun ad a w=>∃ae:Int,ae=ad∧∃(af:GH),GLe G af∧Fr a 36 [(0,v0),(1,v1),(9,v0),(10,(.int .i64 (x0.length:Int))),(11,(.int .i64 ae))]∧Mem W af w (H)) ab ⟨_,Z,_,gr,f.k Z,m⟩ ?_
  clear ab f m
  rintro ad ag ah ai a w ⟨ae,rfl,af,aj,f,m⟩
  have h0:=rd1 aj h0
  have h1:=rd1 aj h1
  refine Ac ?_
  refine Ai f Z Z AA fun a f=>Aa (Af ?_)
  rcases Ae ah with⟨ak,ah⟩|⟨ak,ah⟩
  ·refine Ak f Z ak ?_
   refine Al ?_
   refine Af (Aj (Ac ?_))
   refine Ab f Z fun a f=> ?_
   obtain⟨al,am,ah⟩:=bind_some ah
   refine AZ T31 f Z Z Z h0 am fun an ao a ap aq f=> ?_
   subst aq
   refine Au m Pl2 f Z Z ap fun a f=>Ad f Z fun a f=>Ad f Z fun a f=>Aa (Af (Ac ?_))
   refine Ab f Z fun a f=>Ab f Z fun a f=>AT Tryz.underlying31 f Z Z h1 fun a f=>Ai f Z Z Cz fun a f=>Aa ?_
   rcases Ae ah with⟨ar,ah⟩|⟨ar,ah⟩
   ·refine Ak f Z ar ?_
    refine Ac ?_
    refine Ad f Z fun a f=>Aa ?_
    refine Ao ?_
    obtain rfl:=sj ah
    obtain rfl:=ai _ rfl
    obtain rfl:=sj hd
    exact⟨[(.int .i64 1)],⟨f.get _ _ Z,trivial⟩,f.defers,_,[],aj,m,Z,Z⟩
   ·refine Ag f Z ar ?_
    refine Al ?_
    refine Ac ?_
    refine Ab f Z fun a f=>Ab f Z fun a f=> ?_
    obtain⟨au,av,ah⟩:=bind_some ah
    refine AZ T31 f Z Z Z h1 av fun aw ax a ay az f=> ?_
    subst az
    refine Au m Pl2 f Z Z ay fun a f=>Ad f Z fun a f=>Aa (Ac ?_)
    refine Ab f Z fun a f=>Ab f Z fun a f=> ?_
    obtain⟨aA,aB,ah⟩:=bind_some ah
    refine Bc f Z Tryz.call110 (Wk.t0 m aB) fun aC w aD m a f=> ?_
    have h0:=rd1 aD h0
    have h1:=rd1 aD h1
    refine Ad f Z fun a f=>Aa (Ac ?_)
    refine Ab f Z fun a f=>Ai f Z Z Cs fun a f=>Aa ?_
    rcases Ae ah with⟨aE,ah⟩|⟨aE,ah⟩
    ·refine Ak f Z aE ?_
     refine Ac ?_
     refine Ab f Z fun a f=>Ad f Z fun a f=>Aa ?_
     refine Ao ?_
     obtain rfl:=sj ah
     obtain rfl:=ai _ rfl
     obtain rfl:=sj hd
     exact⟨[(.int .i64 aA)],⟨f.get _ _ Z,trivial⟩,f.defers,_,[],(gt aj aD),m,Z,Z⟩
    ·refine Ag f Z aE ?_
     refine Al ?_
     refine Ah ?_
     refine Ai f Z Z As fun a f=>Ab f Z fun a f=>Aa ?_
     obtain rfl:=sj ah
     exact⟨_,Z,_,Z,_,(gt aj aD),f.k Z,m⟩
  ·refine Ag f Z ak ?_
   refine Aw Z ?_
   obtain rfl:=sj ah
   obtain rfl:=ai _ rfl
   exact⟨_,Z,_,aj,f.k Z,m⟩
 ·rintro a w ⟨_,rfl,ac,aF,f,m⟩
  have h0:=rd1 aF h0
  have h1:=rd1 aF h1
  refine Af (Ac ?_)
  refine Ab f Z fun a f=>AT Tryz.underlying31 f Z Z h0 fun a f=>Ab f Z fun a f=>AT Tryz.underlying31 f Z Z h1 fun a f=>Ai f Z Z AA fun a f=>Aa ?_
  rcases Ae hd with⟨aG,hd⟩|⟨aG,hd⟩
  ·refine Ak f Z aG ?_
   refine Ac ?_
   refine Ad f Z fun a f=>Aa ?_
   refine Ao ?_
   obtain rfl:=sj hd
   exact⟨[(.int .i64 (-1))],⟨f.get _ _ Z,trivial⟩,f.defers,_,[],aF,m,Z,Z⟩
  ·refine Ag f Z aG ?_
   refine Al ?_
   refine Ac ?_
   refine Ad f Z fun a f=>Aa ?_
   refine Ao ?_
   obtain rfl:=sj hd
   exact⟨[(.int .i64 0)],⟨f.get _ _ Z,trivial⟩,f.defers,_,[],aF,m,Z,Z⟩
theorem Wk.o1 {W w:World}{G:GH}{H:List Itm}{v0:Value}{x0:(List (List Int))}(m:Mem W G w (H))(h0:RSl (RSl (RI .i64)) G v0 x0){y:((List (List Int)))}(hd:D.o1 x0=some y):
  Calls Tryz.prog 74 #[v0] w (Res W G H (fun G' Ho v=>∃r0:Value,∃i0:Itm,Ho=[i0]∧r0=v∧Ow (RSl (RI .i64)) 31 G' i0 r0 y)):=by
 refine Aq (args:=[v0]) (N:=8) [.tmp 2] Tryz.func74 Z Z (Nat.le_of_ble_eq_true Z) Z fun a f=> ?_
 unfold D.o1 at hd
 refine Ac ?_
 refine Ad f Z fun a f=>Aa (Af (Ac ?_))
 refine Ab f Z fun a f=>l_o f (E9 (f.eval Z) (f.eval Z) h0.hdr Tryz.underlying27 Z) fun a f=>Aa ?_
 rcases Bool.eq_false_or_eq_true (D2 v0) with aa|aa
 ·have hz:=h0.nil_inv aa
  subst hz
  replace hd:some ([]:List (List Int))=some _:=hd
  refine Ak f Z aa ?_
  refine Ac ?_
  refine Ad f Z fun a f=>Aa ?_
  refine Ao ?_
  obtain⟨ab,m,ac⟩:=Ow.nil (RSl (RI .i64)) 31 m
  obtain rfl:=sj hd
  exact⟨[(.slice none 0 0)],⟨f.get _ _ Z,trivial⟩,f.defers,_,[ab],gr,m,_,_,Z,Z,ac⟩
 ·refine Ag f Z aa ?_
  refine Al ?_
  refine Ac ?_
  refine A7 (R:=(RSl (RI .i64))) (xs:=([]:List (List Int))) (RSl.one _) m T27 f Z Z Z (by decide) (All2.nil _) fun ad ae w a m af f=>Ab f Z fun a f=> ?_
  obtain⟨ag,ah,hd⟩:=bind_some hd
  refine Bh (RSl.one _) 0 m af Z T27 Z (by decide) f Z Z Z (h0.src m) ah fun ai aj w a m ak f=>Ad f Z fun a f=>Aa ?_
  refine Ao ?_
  obtain rfl:=sj hd
  exact⟨[aj],⟨f.get _ _ Z,trivial⟩,f.defers,_,[ai],gr,m,_,_,Z,Z,ak⟩
theorem Wk.i1 {W w:World}{G:GH}{H:List Itm}{v0:Value}{x0:(List Int)}(m:Mem W G w (H))(h0:RSl (RI .u32) G v0 x0){y:((List Int))}(hd:D.i1 x0=some y):
  Calls Tryz.prog 113 #[v0] w (Res W G H (fun G' Ho v=>∃r0:Value,∃i0:Itm,Ho=[i0]∧r0=v∧Ow (RI .u32) 65 G' i0 r0 y)):=by
 refine Aq (args:=[v0]) (N:=8) [.tmp 2] Tryz.func113 Z Z (Nat.le_of_ble_eq_true Z) Z fun a f=> ?_
 unfold D.i1 at hd
 refine Ac ?_
 refine Ad f Z fun a f=>Aa (Af (Ac ?_))
 refine Ab f Z fun a f=>l_o f (E9 (f.eval Z) (f.eval Z) h0.hdr Tryz.underlying60 Z) fun a f=>Aa ?_
 rcases Bool.eq_false_or_eq_true (D2 v0) with aa|aa
 ·have hz:=h0.nil_inv aa
  subst hz
  replace hd:some ([]:List Int)=some _:=hd
  refine Ak f Z aa ?_
  refine Ac ?_
  refine Ad f Z fun a f=>Aa ?_
  refine Ao ?_
  obtain⟨ab,m,ac⟩:=Ow.nil (RI .u32) 65 m
  obtain rfl:=sj hd
  exact⟨[(.slice none 0 0)],⟨f.get _ _ Z,trivial⟩,f.defers,_,[ab],gr,m,_,_,Z,Z,ac⟩
 ·refine Ag f Z aa ?_
  refine Al ?_
  refine Ac ?_
  refine A7 (R:=(RI .u32)) (xs:=([]:List Int)) (RI.one _) m T60 f Z Z Z (by decide) (All2.nil _) fun ad ae w a m af f=>Ab f Z fun a f=> ?_
  obtain⟨ag,ah,hd⟩:=bind_some hd
  refine Bh (RI.one _) 0 m af Z T60 Z (by decide) f Z Z Z (h0.src m) ah fun ai aj w a m ak f=>Ad f Z fun a f=>Aa ?_
  refine Ao ?_
  obtain rfl:=sj hd
  exact⟨[aj],⟨f.get _ _ Z,trivial⟩,f.defers,_,[ai],gr,m,_,_,Z,Z,ak⟩
theorem Wk.u1 {W w:World}{G:GH}{H:List Itm}{v0:Value}{it0:Itm}{x0:(List Int)}{x1:Int}{x2:Int}(m:Mem W G w (it0::H))(o0:Ow (RI .u32) 65 G it0 v0 x0){y:(List Int)}(hd:D.u1 x0 x1 x2=some y):
  Calls Tryz.prog 112 #[v0,(.int .i64 x1),(.int .i64 x2)] w (Res W G H (fun G' Ho v=>∃r0:Value,∃i0:Itm,Ho=[i0]∧r0=v∧Ow (RI .u32) 65 G' i0 r0 y)):=by
 unfold D.u1 delD at hd
 split at hd
 next hg=>
  obtain⟨g0,g1,g2⟩:=hg
  obtain rfl:=sj hd
  obtain⟨b,c,rfl,gc⟩:=o0.block m (by omega)
  refine Aq (args:=[(.slice (some ⟨b,0,none⟩) x0.length c),(.int .i64 x1),(.int .i64 x2)]) (N:=33) [.tmp 6] Tryz.func112 Z Z (Nat.le_of_ble_eq_true Z) Z fun a f=>Ac ?_
  refine Ad f Z fun a f=>Aa (Ac ?_)
  refine Ab f Z fun a f=>Ab f Z fun a f=>Ab f Z fun a f=>Ab f Z fun a f=>l_o f (r_len (f.eval Z) Tryz.underlying60) fun a f=>l_slice3 T60 f Z Z Z Z Z g0 (Int.le_of_lt g1) g2 (Int.ofNat_le.2 gc) fun v3 a f=>Aa (Af (Ac ?_))
  refine Ab f Z fun a f=>Ab f Z fun a f=>Ai f Z Z BH fun a f=>Aa ?_
  refine Ag f Z (beq_eq_false_iff_ne.2 (by omega)) ?_
  refine Al ?_
  refine Ac ?_
  refine Ab f Z fun a f=>l_o f (r_len (f.eval Z) Tryz.underlying60) fun a f=>Ad f Z fun a f=>Aa (Af ?_)
  refine AY 6 AI (by kernel_rfl) m ?_
  refine Am 0 6 Z f Z fun a f=>Am 1 6 Z f Z fun a f=>q_p 2 6 Z f (fun _=>r_slice_lo T60 (f.eval Z) (f.eval Z) g0 (by omega)) fun a f=>Am 3 6 Z f Z fun a f=>Am 4 6 Z f Z fun a f=>q_p 5 6 Z f (fun _=>r_slice_hi T60 (f.eval Z) (f.eval Z) (by omega) g2 gc) fun a f=>AU fun G1 w hl m=> ?_
  have o0:=od1 hl o0
  refine l_del (RI.one _) m o0 T60 f Z g0 g1 g2 Z Z Z (fun hp=>if_neg (by omega)) fun it1 w a m o1 f=>Ad f Z fun a f=>Aa (Ac ?_)
  refine Ab f Z fun a f=>Ab f Z fun a f=>l_o f (r_len (f.eval Z) Tryz.underlying60) fun a f=>Ab f Z fun a f=>l_o f (r_slice_mid T60 (f.eval Z) (f.eval Z) (f.eval Z) (by rw[List.length_append,List.length_take,List.length_drop];omega) gc) fun a f=>l_wipe m o1 T60 Z Z f Z (Nat.le_refl _) (by rw[List.length_append,List.length_take,List.length_drop];omega) fun w m=>Aa (Ac ?_)
  refine Ab f Z fun a f=>Ad f Z fun a f=>Aa ?_
  refine Ao ?_
  exact⟨[_],⟨f.get _ _ Z,trivial⟩,f.defers,_,[it1],hl,m,_,_,Z,Z,o1⟩
 next=>cases hd
theorem Wk.Y0 {W w:World}{G:GH}{H:List Itm}{v0:Value}{x0:(List Int)}(m:Mem W G w (H))(h0:RSl (RI .i64) G v0 x0){y:((List Int))}(hd:D.Y0 x0=some y):
  Calls Tryz.prog 79 #[v0] w (Res W G H (fun G' Ho v=>∃r0:Value,∃i0:Itm,Ho=[i0]∧r0=v∧Ow (RI .i64) 2 G' i0 r0 y)):=by
 refine Aq (args:=[v0]) (N:=8) [.tmp 2] Tryz.func79 Z Z (Nat.le_of_ble_eq_true Z) Z fun a f=> ?_
 unfold D.Y0 at hd
 refine Ac ?_
 refine Ad f Z fun a f=>Aa (Af (Ac ?_))
 refine Ab f Z fun a f=>l_o f (E9 (f.eval Z) (f.eval Z) h0.hdr Tryz.underlying31 Z) fun a f=>Aa ?_
 rcases Bool.eq_false_or_eq_true (D2 v0) with aa|aa
 ·have hz:=h0.nil_inv aa
  subst hz
  replace hd:some ([]:List Int)=some _:=hd
  refine Ak f Z aa ?_
  refine Ac ?_
  refine Ad f Z fun a f=>Aa ?_
  refine Ao ?_
  obtain⟨ab,m,ac⟩:=Ow.nil (RI .i64) 2 m
  obtain rfl:=sj hd
  exact⟨[(.slice none 0 0)],⟨f.get _ _ Z,trivial⟩,f.defers,_,[ab],gr,m,_,_,Z,Z,ac⟩
 ·refine Ag f Z aa ?_
  refine Al ?_
  refine Ac ?_
  refine A7 (R:=(RI .i64)) (xs:=([]:List Int)) (RI.one _) m T31 f Z Z Z (by decide) (All2.nil _) fun ad ae w a m af f=>Ab f Z fun a f=> ?_
  obtain⟨ag,ah,hd⟩:=bind_some hd
  refine Bh (RI.one _) 0 m af Z T31 Z (by decide) f Z Z Z (h0.src m) ah fun ai aj w a m ak f=>Ad f Z fun a f=>Aa ?_
  refine Ao ?_
  obtain rfl:=sj hd
  exact⟨[aj],⟨f.get _ _ Z,trivial⟩,f.defers,_,[ai],gr,m,_,_,Z,Z,ak⟩
end Go.Proofs.YtkffjeaefgfnnaaGreatDoor

set_option maxRecDepth 100000
namespace Go.Proofs.YtkffjeaefgfnnaaGreatDoor
open Go Go.Sx
theorem AO :B9 Tryz.prog 31:=Tryz.isAgg31
theorem AX :B9 Tryz.prog 27:=Tryz.isAgg27
theorem Bo :Agg Tryz.prog 29 1:=⟨Tryz.isAgg29,Tryz.sizeOf29⟩
theorem Pl4 :B9 Tryz.prog 4:=Tryz.isAgg4
theorem T71 :SlT Tryz.prog 71 4 1 1 (.bool false):=⟨Tryz.underlying71,Tryz.t4,by kernel_rfl,by kernel_rfl,by kernel_rfl,by kernel_rfl⟩
theorem Wk.q {W w:World}{G:GH}{H:List Itm}{v0:Value}{x0:(List Int)}{x1:Int}(m:Mem W G w (H))(h0:RSl (RI .i64) G v0 x0){y:Int}(hd:D.q x0 x1=some y):
  Calls Tryz.prog 94 #[v0,(.int .i64 x1)] w (Res W G H (fun _ Ho v=>Ho=[]∧v=(.int .i64 y))):=by
 refine Aq (args:=[v0,(.int .i64 x1)]) (N:=12) [.tmp 4] Tryz.func94 Z Z (Nat.le_of_ble_eq_true Z) Z fun a f=> ?_
 unfold D.q at hd
 refine Ac ?_
 refine Ad f Z fun a f=>Aa (Ac ?_)
 refine Ab f Z fun a f=>Ab f Z fun a f=>AT Tryz.underlying31 f Z Z h0 fun a f=>Ai f Z Z A8 fun a f=>Ad f Z fun a f=>Aa (Af (Ac ?_))
 refine Ab f Z fun a f=>Ai f Z Z AA fun a f=>Aa ?_
 rcases Ae hd with⟨aa,hd⟩|⟨aa,hd⟩
 ·refine Ak f Z aa ?_
  refine Ac ?_
  refine Ad f Z fun a f=>Aa ?_
  refine Ao ?_
  obtain rfl:=sj hd
  exact⟨[(.int .i64 (-1))],⟨f.get _ _ Z,trivial⟩,f.defers,_,[],gr,m,Z,Z⟩
 ·refine Ag f Z aa ?_
  refine Al ?_
  refine Ac ?_
  refine Ab f Z fun a f=>Ad f Z fun a f=>Aa ?_
  refine Ao ?_
  obtain rfl:=sj hd
  exact⟨[(.int .i64 (IntKind.i64.wrap (x1-(x0.length:Int))))],⟨f.get _ _ Z,trivial⟩,f.defers,_,[],gr,m,Z,Z⟩
theorem Wk.x0 {W w:World}{G:GH}{H:List Itm}{v0:Value}{x0:(List (List Int))}{x1:Int}(m:Mem W G w (H))(h0:RSl (RSl (RI .i64)) G v0 x0){y:Int}(hd:D.x0 x0 x1=some y):
  Calls Tryz.prog 59 #[v0,(.int .i64 x1)] w (Res W G H (fun _ Ho v=>Ho=[]∧v=(.int .i64 y))):=by
 refine Aq (args:=[v0,(.int .i64 x1)]) (N:=27) [.tmp 4] Tryz.func59 Z Z (Nat.le_of_ble_eq_true Z) Z fun a f=> ?_
 unfold D.x0 at hd
 refine Ac ?_
 refine Ad f Z fun a f=>Aa (Ac ?_)
 refine Ab f Z fun a f=>Ab f Z fun a f=>AT Tryz.underlying27 f Z Z h0 fun a f=>Ai f Z Z A8 fun a f=>Ad f Z fun a f=>Aa (Af (Ac ?_))
 refine Ab f Z fun a f=>Ai f Z Z AA fun a f=>Aa ?_
 rcases Ae hd with⟨aa,hd⟩|⟨aa,hd⟩
 ·refine Ak f Z aa ?_
  refine Ac ?_
  refine Ad f Z fun a f=>Aa ?_
  refine Ao ?_
  obtain rfl:=sj hd
  exact⟨[(.int .i64 (-1))],⟨f.get _ _ Z,trivial⟩,f.defers,_,[],gr,m,Z,Z⟩
 ·refine Ag f Z aa ?_
  refine Al ?_
  refine Af (Ac ?_)
  refine Ad f Z fun a f=>Aa ?_
  obtain⟨ab,ac,hd⟩:=bind_some hd
  refine AF (fun a w=>∃q_35':Int,ab= .inl q_35'∧∃ad:Int,ad=q_35'∧∃(ae:GH),GLe G ae∧Fr a 27 [(1,(.int .i64 ad))]∧Mem W ae w (H)) ?_ ?_
  ·refine Aj ?_
   refine AC (fun af a w=>∃ag:Int,∃ah:Int,(ag,ah)=af∧∃(ai:GH),GLe G ai∧Fr a 27 [(0,v0),(1,(.int .i64 ag)),(5,(.int .i64 ah))]∧Mem W ai w (H)) ac ⟨_,_,Z,_,gr,f.k Z,m⟩ ?_
   clear ac f m
   rintro af aj ak al a w ⟨ag,ah,rfl,ai,am,f,m⟩
   have h0:=rd2 am h0
   refine Af (Ac ?_)
   refine Ab f Z fun a f=>Ab f Z fun a f=>AT Tryz.underlying27 f Z Z h0 fun a f=>Ai f Z Z AA fun a f=>Aa ?_
   rcases Ae ak with⟨an,ak⟩|⟨an,ak⟩
   ·refine Ak f Z an ?_
    refine Al ?_
    refine Af (Aj (Ac ?_))
    refine Ab f Z fun a f=>Ab f Z fun a f=> ?_
    obtain⟨ao,ap,ak⟩:=bind_some ak
    refine AZ T27 f Z Z Z h0 ap fun aq ar a au av f=>Au m AO f Z Z au fun a f=>Ab f Z fun a f=> ?_
    obtain⟨aw,ax,ak⟩:=bind_some ak
    refine Bc f Z Tryz.call94 (Wk.q m av ax) fun ay w az m a f=> ?_
    have h0:=rd2 az h0
    have au:=At.mono az au
    have av:=rd1 az av
    refine Ad f Z fun a f=>Aa (Ac ?_)
    refine Ab f Z fun a f=>Ai f Z Z AA fun a f=>Aa ?_
    rcases Ae ak with⟨aA,ak⟩|⟨aA,ak⟩
    ·refine Ak f Z aA ?_
     refine Ac ?_
     refine Ad f Z fun a f=>Aa ?_
     refine Ao ?_
     obtain rfl:=sj ak
     obtain rfl:=al _ rfl
     obtain rfl:=sj hd
     exact⟨[(.int .i64 (-1))],⟨f.get _ _ Z,trivial⟩,f.defers,_,[],(gt am az),m,Z,Z⟩
    ·refine Ag f Z aA ?_
     refine Al ?_
     refine Ah ?_
     refine Ab f Z fun a f=>Ai f Z Z As fun a f=>Ad f Z fun a f=>Aa ?_
     obtain rfl:=sj ak
     exact⟨_,Z,_,_,Z,_,(gt am az),f.k Z,m⟩
   ·refine Ag f Z an ?_
    refine Aw Z ?_
    obtain rfl:=sj ak
    obtain rfl:=al _ rfl
    exact⟨_,Z,_,Z,_,am,f.k Z,m⟩
  ·rintro a w ⟨_,rfl,ad,rfl,ae,aB,f,m⟩
   refine Ac ?_
   refine Ab f Z fun a f=>Ad f Z fun a f=>Aa ?_
   refine Ao ?_
   obtain rfl:=sj hd
   exact⟨[(.int .i64 ad)],⟨f.get _ _ Z,trivial⟩,f.defers,_,[],aB,m,Z,Z⟩
theorem Wk.a1 {W w:World}{G:GH}{H:List Itm}{v0_0:Value}{x0_0:(List (List Int))}{x1:Int}(m:Mem W G w (H))(h0_0:RSl (RSl (RI .i64)) G v0_0 x0_0){y:Int}(hd:D.a1 x0_0 x1=some y):
  Calls Tryz.prog 21 #[(.agg #[v0_0]),(.int .i64 x1)] w (Res W G H (fun _ Ho v=>Ho=[]∧v=(.int .i64 y))):=by
 refine Aq (args:=[(.agg #[v0_0]),(.int .i64 x1)]) (N:=12) [.tmp 4] Tryz.func21 Z Z (Nat.le_of_ble_eq_true Z) Z fun a f=> ?_
 unfold D.a1 at hd
 refine Ac ?_
 refine Bm (cs:=[v0_0]) m f Z Z Z fun aa w a m f=>Ad f Z fun a f=>Aa (Ac ?_)
 refine Bk Tryz.underlying44 Z Tryz.sizeOf27 f Z fun a f=>Ay 0 0 m AX f Z Z Z Z fun a f=>Ab f Z fun a f=> ?_
 obtain⟨ab,ac,hd⟩:=bind_some hd
 refine Bc f Z Tryz.call59 (Wk.x0 m h0_0 ac) fun ad w ae m a f=> ?_
 have h0_0:=rd2 ae h0_0
 refine Ad f Z fun a f=>Aa (Af (Ac ?_))
 refine Ab f Z fun a f=>Ai f Z Z AA fun a f=>Aa ?_
 rcases Ae hd with⟨af,hd⟩|⟨af,hd⟩
 ·refine Ak f Z af ?_
  refine Ac ?_
  refine Ad f Z fun a f=>Aa ?_
  refine Ao ?_
  have m:Mem W ad w H:=Mem.drop (H':=[Itm.box aa 44 [v0_0]]) m
  obtain rfl:=sj hd
  exact⟨[(.int .i64 (-1))],⟨f.get _ _ Z,trivial⟩,f.defers,_,[],ae,m,Z,Z⟩
 ·refine Ag f Z af ?_
  refine Al ?_
  refine Ac ?_
  refine Ab f Z fun a f=>Ad f Z fun a f=>Aa ?_
  refine Ao ?_
  have m:Mem W ad w H:=Mem.drop (H':=[Itm.box aa 44 [v0_0]]) m
  obtain rfl:=sj hd
  exact⟨[(.int .i64 ab)],⟨f.get _ _ Z,trivial⟩,f.defers,_,[],ae,m,Z,Z⟩
theorem Wk.s {W w:World}{G:GH}{H:List Itm}{v0:Value}{x0:(List Int)}(m:Mem W G w (H))(h0:RSl (RI .i64) G v0 x0){y:((List Int))}(hd:D.s x0=some y):
  Calls Tryz.prog 100 #[v0] w (Res W G H (fun G' Ho v=>∃r0:Value,∃i0:Itm,Ho=[i0]∧r0=v∧Ow (RI .i64) 2 G' i0 r0 y)):=by
 refine Aq (args:=[v0]) (N:=22) [.tmp 2] Tryz.func100 Z Z (Nat.le_of_ble_eq_true Z) Z fun a f=> ?_
 unfold D.s at hd
 refine Ac ?_
 refine Ad f Z fun a f=>Aa (Ac ?_)
 refine Ab f Z fun a f=>AT Tryz.underlying31 f Z Z h0 fun a f=> ?_
 obtain⟨aa,ab,hd⟩:=bind_some hd
 refine CU (R:=(RI .i64)) m T31 Z (by decide) Z f Z Z Z ab fun ac ad w a m ae f=>Ad f Z fun a f=>Aa (Af (Ac ?_))
 refine Ad f Z fun a f=>Aa ?_
 obtain⟨af,ag,hd⟩:=bind_some hd
 refine AF (fun a w=>∃ah:List Int,ah=af∧∃(ai:GH) (aj:Itm),GLe G ai∧Fr a 22 [(3,ad)]∧Mem W ai w (aj::H)∧Ow (RI .i64) 2 ai aj ad ah) ?_ ?_
 ·refine Aj ?_
  refine AC (fun ak a w=>∃al:List Int,∃am:Int,(al,am)=ak∧∃(an:GH) (ao:Itm),GLe G an∧Fr a 22 [(0,v0),(3,ad),(4,(.int .i64 am))]∧Mem W an w (ao::H)∧Ow (RI .i64) 2 an ao ad al) ag ⟨_,_,Z,_,ac,gr,f.k Z,m,ae⟩ ?_
  clear ag f m
  rintro ak ap aq ar a w ⟨al,am,rfl,an,ao,au,f,m,av⟩
  have h0:=rd1 au h0
  refine Af (Ac ?_)
  refine Ab f Z fun a f=>Ab f Z fun a f=>AT Tryz.underlying31 f Z Z h0 fun a f=>Ai f Z Z AA fun a f=>Aa ?_
  rcases Ae aq with⟨aw,aq⟩|⟨aw,aq⟩
  ·refine Ak f Z aw ?_
   refine Al ?_
   refine Af (Aj (Ah ?_))
   refine Ab f Z fun a f=>Ab f Z fun a f=>Ab f Z fun a f=>Ab f Z fun a f=> ?_
   obtain⟨ax,ay,aq⟩:=bind_some aq
   refine AZ T31 f Z Z Z h0 ay fun az aA a aB aC f=> ?_
   subst aC
   refine Au m Pl2 f Z Z aB fun a f=> ?_
   obtain⟨aD,aE,aq⟩:=bind_some aq
   refine AV 0 m av Z T31 f Z Z Z aE fun aF a aG f=>AH 0 m av Z Tryz.sizeOf2 f Z Z aG aE Z Z Z fun aH w m aI=>Aa (Ah ?_)
   refine Ab f Z fun a f=>Ai f Z Z As fun a f=>Ad f Z fun a f=>Aa ?_
   obtain rfl:=sj aq
   exact⟨_,Z,_,_,Z,_,aH,au,f.k Z,m,aI⟩
  ·refine Ag f Z aw ?_
   refine Aw Z ?_
   obtain rfl:=sj aq
   obtain rfl:=ar _ rfl
   exact⟨_,Z,_,ao,au,f.k Z,m,av⟩
 ·rintro a w ⟨ah,rfl,ai,aj,aJ,f,m,aK⟩
  refine Ac ?_
  refine Ab f Z fun a f=>Ad f Z fun a f=>Aa ?_
  refine Ao ?_
  obtain rfl:=sj hd
  exact⟨[ad],⟨f.get _ _ Z,trivial⟩,f.defers,_,[aj],aJ,m,_,_,Z,Z,aK⟩
theorem Wk.M0 {W w:World}{G:GH}{H:List Itm}{v0:Value}{x0:(List (List Int))}(m:Mem W G w (H))(h0:RSl (RSl (RI .i64)) G v0 x0){y:((List (List Int)))}(hd:D.M0 x0=some y):
  Calls Tryz.prog 62 #[v0] w (Res W G H (fun G' Ho v=>∃r0:Value,∃i0:Itm,Ho=[i0]∧r0=v∧Ow2 (RI .i64) 31 2 G' i0 r0 y)):=by
 refine Aq (args:=[v0]) (N:=23) [.tmp 2] Tryz.func62 Z Z (Nat.le_of_ble_eq_true Z) Z fun a f=> ?_
 unfold D.M0 at hd
 refine Ac ?_
 refine Ad f Z fun a f=>Aa (Ac ?_)
 refine Ab f Z fun a f=>AT Tryz.underlying27 f Z Z h0 fun a f=> ?_
 obtain⟨aa,ab,hd⟩:=bind_some hd
 refine l_make2 (R:=(RI .i64)) (t2:=2) m T27 (by decide) f Z Z Z ab fun ac ad w a m ae f=>Ad f Z fun a f=>Aa (Af (Ac ?_))
 refine Ad f Z fun a f=>Aa ?_
 obtain⟨af,ag,hd⟩:=bind_some hd
 refine AF (fun a w=>∃ah:List (List Int),ah=af∧∃(ai:GH) (aj:Itm),GLe G ai∧Fr a 23 [(3,ad)]∧Mem W ai w (aj::H)∧Ow2 (RI .i64) 31 2 ai aj ad ah) ?_ ?_
 ·refine Aj ?_
  refine AC (fun ak a w=>∃al:List (List Int),∃am:Int,(al,am)=ak∧∃(an:GH) (ao:Itm),GLe G an∧Fr a 23 [(0,v0),(3,ad),(4,(.int .i64 am))]∧Mem W an w (ao::H)∧Ow2 (RI .i64) 31 2 an ao ad al) ag ⟨_,_,Z,_,ac,gr,f.k Z,m,ae⟩ ?_
  clear ag f m
  rintro ak ap aq ar a w ⟨al,am,rfl,an,ao,au,f,m,av⟩
  have h0:=rd2 au h0
  refine Af (Ac ?_)
  refine Ab f Z fun a f=>Ab f Z fun a f=>AT Tryz.underlying27 f Z Z h0 fun a f=>Ai f Z Z AA fun a f=>Aa ?_
  rcases Ae aq with⟨aw,aq⟩|⟨aw,aq⟩
  ·refine Ak f Z aw ?_
   refine Al ?_
   refine Af (Aj (Ah ?_))
   refine Ab f Z fun a f=>Ab f Z fun a f=>Ab f Z fun a f=>Ab f Z fun a f=> ?_
   obtain⟨ax,ay,aq⟩:=bind_some aq
   refine AZ T27 f Z Z Z h0 ay fun az aA a aB aC f=>Au m AO f Z Z aB fun a f=> ?_
   obtain⟨aD,aE,aq⟩:=bind_some aq
   refine AK f Z Tryz.call100 (Wk.s m aC aE) fun aF aG aH w aI m aJ a f=> ?_
   obtain⟨aK,aL,rfl,rfl,aM⟩:=aJ
   have h0:=rd2 aI h0
   have aB:=At.mono aI aB
   have aC:=rd1 aI aC
   have av:=od2 aI av
   obtain⟨aN,aO,aq⟩:=bind_some aq
   refine l_own2_at 1 m av Z T27 f Z Z Z aO fun aP a aQ f=> ?_
   have m:=m.front 1 rfl
   refine l_own2_store m av aM Tryz.sizeOf31 f Z Z aQ aO fun aR w m aS=>Aa (Ah ?_)
   refine Ab f Z fun a f=>Ai f Z Z As fun a f=>Ad f Z fun a f=>Aa ?_
   obtain rfl:=sj aq
   exact⟨_,Z,_,_,Z,_,aR,(gt au aI),f.k Z,m,aS⟩
  ·refine Ag f Z aw ?_
   refine Aw Z ?_
   obtain rfl:=sj aq
   obtain rfl:=ar _ rfl
   exact⟨_,Z,_,ao,au,f.k Z,m,av⟩
 ·rintro a w ⟨ah,rfl,ai,aj,aT,f,m,aU⟩
  refine Ac ?_
  refine Ab f Z fun a f=>Ad f Z fun a f=>Aa ?_
  refine Ao ?_
  obtain rfl:=sj hd
  exact⟨[ad],⟨f.get _ _ Z,trivial⟩,f.defers,_,[aj],aT,m,_,_,Z,Z,aU⟩
theorem Wk.x {W w:World}{G:GH}{H:List Itm}{v0_0:Value}{x0_0:(List (List Int))}(m:Mem W G w (H))(h0_0:RSl (RSl (RI .i64)) G v0_0 x0_0){y:((List (List Int)))}(hd:D.x x0_0=some y):
  Calls Tryz.prog 23 #[(.agg #[v0_0])] w (Res W G H (fun G' Ho v=>∃r0:Value,∃i0:Itm,Ho=[i0]∧v=(.agg #[r0])∧Ow2 (RI .i64) 31 2 G' i0 r0 y)):=by
 refine Aq (args:=[(.agg #[v0_0])]) (N:=9) [.cell 2 29] Tryz.func23 Z Z (Nat.le_of_ble_eq_true Z) Z fun a f=> ?_
 unfold D.x at hd
 refine Ac ?_
 refine Bm (cs:=[v0_0]) m f Z Z Z fun aa w a m f=>Bp (cs:=[(.slice none 0 0)]) Tryz.zeroValue29 m f Z Z fun ab w a m f=>Aa (Ac ?_)
 refine Bp (cs:=[(.slice none 0 0)]) Tryz.zeroValue29 m f Z Z fun ac w a m f=>Aa (Ac ?_)
 refine Bk Tryz.underlying44 Z Tryz.sizeOf27 f Z fun a f=>Ay 2 0 m AX f Z Z Z Z fun a f=> ?_
 obtain⟨ad,ae,hd⟩:=bind_some hd
 refine AK f Z Tryz.call62 (Wk.M0 m h0_0 ae) fun af ag ah w ai m aj a f=> ?_
 obtain⟨ak,al,rfl,rfl,am⟩:=aj
 have h0_0:=rd2 ai h0_0
 refine Bk Tryz.underlying29 Z Tryz.sizeOf27 f Z fun a f=>AG 1 0 (ds:=[ak]) m Tryz.sizeOf27 f Z Z (Ow2.cells 0 m am Z) (Av (Ow2.one1 0 m am Z) AS) Z (Nat.le_of_ble_eq_true Z) Z fun w m=>Aa (Ac ?_)
 refine AE 1 0 (ds:=[ak]) m Bo f Z Z Z Z Z fun a f=>AG 2 0 (ds:=[ak]) m Tryz.sizeOf29 f Z Z Z (Av (Ow2.one1 0 m am Z) AS) Z (Nat.le_of_ble_eq_true Z) Z fun w m=>Aa ?_
 refine Ao ?_
 have an:=Ci (P:=Tryz.prog) 2 m Bo f (s:=2) rfl rfl rfl
 have m:=m.eraseAt 3
 have m:=m.eraseAt 2
 have m:=m.eraseAt 1
 obtain rfl:=sj hd
 exact⟨[(.agg #[ak])],⟨an,trivial⟩,f.defers,_,[al],ai,m,_,_,Z,Z,am⟩
theorem Wk.a {W w:World}{G:GH}{H:List Itm}{v0_0:Value}{x0_0:(List (List Int))}(m:Mem W G w (H))(h0_0:RSl (RSl (RI .i64)) G v0_0 x0_0){y:Int}(hd:D.a x0_0=some y):
  Calls Tryz.prog 42 #[(.agg #[v0_0])] w (Res W G H (fun _ Ho v=>Ho=[]∧v=(.int .i64 y))):=by
 refine Aq (args:=[(.agg #[v0_0])]) (N:=6) [.tmp 2] Tryz.func42 Z Z (Nat.le_of_ble_eq_true Z) Z fun a f=> ?_
 unfold D.a at hd
 refine Ac ?_
 refine Bm (cs:=[v0_0]) m f Z Z Z fun aa w a m f=>Ad f Z fun a f=>Aa (Ac ?_)
 refine Bk Tryz.underlying29 Z Tryz.sizeOf27 f Z fun a f=>Ay 0 0 m AX f Z Z Z Z fun a f=>AT Tryz.underlying27 f Z Z h0_0 fun a f=>Ad f Z fun a f=>Aa ?_
 refine Ao ?_
 have m:Mem W G w H:=Mem.drop (H':=[Itm.box aa 29 [v0_0]]) m
 obtain rfl:=sj hd
 exact⟨[(.int .i64 (x0_0.length:Int))],⟨f.get _ _ Z,trivial⟩,f.defers,_,[],gr,m,Z,Z⟩
theorem Wk.c {W w:World}{G:GH}{H:List Itm}{x0:Int}{x1:Int}{x2:Int}(m:Mem W G w (H)){y:Bool}(hd:D.c x0 x1 x2=some y):
  Calls Tryz.prog 66 #[(.int .i64 x0),(.int .i64 x1),(.int .i64 x2)] w (Res W G H (fun _ Ho v=>Ho=[]∧v=(.bool y))):=by
 refine Aq (args:=[(.int .i64 x0),(.int .i64 x1),(.int .i64 x2)]) (N:=15) [.tmp 6] Tryz.func66 Z Z (Nat.le_of_ble_eq_true Z) Z fun a f=> ?_
 unfold D.c at hd
 refine Ac ?_
 refine Ad f Z fun a f=>Aa (Ac ?_)
 refine Ab f Z fun a f=>Ab f Z fun a f=>Ai f Z Z Cz fun a f=>Ab f Z fun a f=> ?_
 refine BA 4 (fun a w=>∃aa,GLe G aa∧Mem W aa w (H)∧Fr a 15 [(0,(.int .i64 x0)),(1,(.int .i64 x1)),(2,(.int .i64 x2)),(7,(.int .i64 x0)),(8,(.int .i64 x1)),(9,(.bool (decide (x1≤x0)))),(10,(.bool (decide (x1≤x0)))),(14,(.bool ((decide (x1≤x0))&&(decide (x0≤x2)))))]) ?_ ?_
 ·rcases Bool.eq_false_or_eq_true (decide (x1≤x0)) with ab|ab
  ·refine Az f ab ?_
   refine Ab f Z fun a f=>Az f ab ?_
   refine Ab f Z fun a f=>Az f ab ?_
   refine Ai f Z Z CK fun a f=>l_o f (A3 (f.eval Z) ab (f.eval Z)) fun a f=> ?_
   exact⟨_,gr,m,f.weak ⟨Z,Z,Z,Z,Z,Z,Z,by rw[ab];rfl,trivial⟩⟩
  ·refine AB f ab fun a f=> ?_
   refine AB f ab fun a f=>AB f ab fun a f=>l_o f (A2 (f.eval Z) ab (f.eval Z)) fun a f=> ?_
   exact⟨_,gr,m,f.weak ⟨Z,Z,Z,Z,Z,Z,Z,by rw[ab];rfl,trivial⟩⟩
 ·rintro a w ⟨aa,ac,m,f⟩
  refine Ad f Z fun a f=>Aa ?_
  refine Ao ?_
  obtain rfl:=sj hd
  exact⟨[(.bool ((decide (x1≤x0))&&(decide (x0≤x2))))],⟨f.get _ _ Z,trivial⟩,f.defers,_,[],ac,m,Z,Z⟩
theorem Wk.z {W w:World}{G:GH}{H:List Itm}{v0:Value}{x0:(List Int)}{x1:Int}(m:Mem W G w (H))(h0:RSl (RI .i64) G v0 x0){y:Bool}(hd:D.z x0 x1=some y):
  Calls Tryz.prog 50 #[v0,(.int .i64 x1)] w (Res W G H (fun _ Ho v=>Ho=[]∧v=(.bool y))):=by
 refine Aq (args:=[v0,(.int .i64 x1)]) (N:=40) [.tmp 4] Tryz.func50 Z Z (Nat.le_of_ble_eq_true Z) Z fun a f=> ?_
 unfold D.z at hd
 refine Ac ?_
 refine Ad f Z fun a f=>Aa (Af (Ac ?_))
 refine Ab f Z fun a f=>AT Tryz.underlying31 f Z Z h0 fun a f=>Ab f Z fun a f=>Ai f Z Z Cr fun a f=>Aa ?_
 rcases Ae hd with⟨aa,hd⟩|⟨aa,hd⟩
 ·refine Ak f Z aa ?_
  refine Ac ?_
  refine Ad f Z fun a f=>Aa ?_
  refine Ao ?_
  obtain rfl:=sj hd
  exact⟨[(.bool false)],⟨f.get _ _ Z,trivial⟩,f.defers,_,[],gr,m,Z,Z⟩
 ·refine Ag f Z aa ?_
  refine Al ?_
  refine Af (Ac ?_)
  refine Ad f Z fun a f=>Aa ?_
  obtain⟨ab,ac,hd⟩:=bind_some hd
  refine AF (fun a w=>∃q_150':Unit,ab= .inl q_150'∧∃(ad:GH),GLe G ad∧Fr a 40 []∧Mem W ad w (H)) ?_ ?_
  ·refine Aj ?_
   refine AC (fun ae a w=>∃af:Int,af=ae∧∃(ag:GH),GLe G ag∧Fr a 40 [(0,v0),(1,(.int .i64 x1)),(5,(.int .i64 af))]∧Mem W ag w (H)) ac ⟨_,Z,_,gr,f.k Z,m⟩ ?_
   clear ac f m
   rintro ae ah ai aj a w ⟨af,rfl,ag,ak,f,m⟩
   have h0:=rd1 ak h0
   refine Af (Ac ?_)
   refine Ab f Z fun a f=>Ab f Z fun a f=>AT Tryz.underlying31 f Z Z h0 fun a f=>Ai f Z Z AA fun a f=>Aa ?_
   rcases Ae ai with⟨al,ai⟩|⟨al,ai⟩
   ·refine Ak f Z al ?_
    refine Al ?_
    refine Af (Aj (Af ?_))
    refine AY 24 AI (by kernel_rfl) m ?_
    refine Am 0 24 Z f Z fun a f=>Am 1 24 Z f Z fun a f=> ?_
    obtain⟨am,an,ai⟩:=bind_some ai
    refine BF 2 24 T31 h0 an Z f Z Z fun ao ap a aq ar f=> ?_
    subst ar
    refine BE 3 24 Pl2 aq Z f Z fun a f=>Am 4 24 Z f Z fun a f=>q_p 5 24 Z f (fun _=>AL (f.eval Z) (f.eval Z) A8) fun a f=> ?_
    obtain⟨au,av,ai⟩:=bind_some ai
    refine Ca (i:=6) 24 Z (by kernel_rfl) Z f Z Z Z Tryz.call66 (fun _ _ w aw m=>Wk.c m av) fun a f=>q_p 7 24 Z f (fun _=>Bs (f.eval Z)) fun a f=>Am 8 24 Z f Z fun a f=> ?_
    obtain⟨ax,ay,ai⟩:=bind_some ai
    refine CY (fuel':=0) (listed':= #[true,true,true,true,true,true,true,true,true,true,true,true,true,true,true,true,true,true,true,true,true,true,true,true]) (fun a=>Fr a 40 [(0,v0),(1,(.int .i64 x1)),(5,(.int .i64 af)),(13,(.bool (decide (af<(x0.length:Int))))),(16,v0),(17,(.int .i64 af)),(18,ao),(19,(.int .i64 am)),(20,(.int .i64 x1)),(21,(.int .i64 (IntKind.i64.wrap (x1-1)))),(22,(.bool au)),(23,(.bool (!au))),(24,(.bool (!au))),(39,(.bool ax))]) ?_ ?_
    ·intro a f
     refine AU fun az w aA m=> ?_
     have h0:=rd1 aA h0
     have aq:=At.mono aA aq
     refine Aa ?_
     rcases Ae ai with⟨aB,ai⟩|⟨aB,ai⟩
     ·refine Ak f Z aB ?_
      refine Ac ?_
      refine Ad f Z fun a f=>Aa ?_
      refine Ao ?_
      obtain rfl:=sj ai
      obtain rfl:=aj _ rfl
      obtain rfl:=sj hd
      exact⟨[(.bool false)],⟨f.get _ _ Z,trivial⟩,f.defers,_,[],(gt ak aA),m,Z,Z⟩
     ·refine Ag f Z aB ?_
      refine Al ?_
      refine Ah ?_
      refine Ab f Z fun a f=>Ai f Z Z As fun a f=>Ad f Z fun a f=>Aa ?_
      obtain rfl:=sj ai
      exact⟨_,Z,_,Z,_,(gt ak aA),f.k Z,m⟩
    ·intro aC
     rcases Ae ay with⟨aD,ay⟩|⟨aD,ay⟩
     ·refine Ax 9 24 Z f aD fun a f=> ?_
      refine Ax 10 24 Z f aD fun a f=>Ax 11 24 Z f aD fun a f=>q_nu 12 24 Z f fun a f=>q_nu 13 24 Z f fun a f=>q_nu 14 24 Z f fun a f=>q_nu 15 24 Z f fun a f=>q_nu 16 24 Z f fun a f=>q_nu 17 24 Z f fun a f=>q_nu 18 24 Z f fun a f=>q_nu 19 24 Z f fun a f=>q_nu 20 24 Z f fun a f=>q_nu 21 24 Z f fun a f=>Ax 22 24 Z f aD fun a f=>q_p 23 24 Z f (fun _=>A3 (f.eval Z) aD (f.eval Z)) fun a f=> ?_
      obtain rfl:=sj ay
      exact aC _ (f.k Z)
     ·refine Am (hw:=wo f aD) 9 24 Z f Z fun a f=> ?_
      refine q_p (hw:=wo f aD) 10 24 Z f (fun _=>AL (f.eval Z) (f.eval Z) Cr) fun a f=>Am (hw:=wo f aD) 11 24 Z f Z fun a f=> ?_
      obtain⟨aE,aF,ay⟩:=bind_some ay
      refine CY (fuel':=1) (listed':= #[true,true,true,true,true,true,true,true,true,true,true,true,true,true,true,true,true,true,true,true,true,true,true,false]) (fun a=>Fr a 40 [(0,v0),(1,(.int .i64 x1)),(5,(.int .i64 af)),(13,(.bool (decide (af<(x0.length:Int))))),(16,v0),(17,(.int .i64 af)),(18,ao),(19,(.int .i64 am)),(20,(.int .i64 x1)),(21,(.int .i64 (IntKind.i64.wrap (x1-1)))),(22,(.bool au)),(23,(.bool (!au))),(24,(.bool (!au))),(25,(.int .i64 af)),(26,(.bool (decide ((0:Int)<af)))),(27,(.bool (decide ((0:Int)<af)))),(38,(.bool aE))]) ?_ ?_
      ·intro a f
       refine q_p 23 24 Z f (fun _=>A2 (f.eval Z) aD (f.eval Z)) fun a f=> ?_
       obtain rfl:=sj ay
       exact aC _ (f.k Z)
      ·intro aG
       rcases Ae aF with⟨aH,aF⟩|⟨aH,aF⟩
       ·refine Am (hw:=wo f aH) 12 24 Z f Z fun a f=> ?_
        refine Am (hw:=wo f aH) 13 24 Z f Z fun a f=> ?_
        obtain⟨aI,aJ,aF⟩:=bind_some aF
        refine BF (hw:=wo f aH) 14 24 T31 h0 aJ Z f Z Z fun aK aL a aM aN f=> ?_
        subst aN
        refine BE (hw:=wo f aH) 15 24 Pl2 aM Z f Z fun a f=>Am (hw:=wo f aH) 16 24 Z f Z fun a f=>Am (hw:=wo f aH) 17 24 Z f Z fun a f=>q_p (hw:=wo f aH) 18 24 Z f (fun _=>AL (f.eval Z) (f.eval Z) A8) fun a f=> ?_
        obtain⟨aO,aP,aF⟩:=bind_some aF
        refine BF (hw:=wo f aH) 19 24 T31 h0 aP Z f Z Z fun aQ aR a aS aT f=> ?_
        subst aT
        refine BE (hw:=wo f aH) 20 24 Pl2 aS Z f Z fun a f=>q_p (hw:=wo f aH) 21 24 Z f (fun _=>AL (f.eval Z) (f.eval Z) CK) fun a f=>q_p (hw:=wo f aD) 22 24 Z f (fun _=>A3 (f.eval Z) aH (f.eval Z)) fun a f=> ?_
        obtain rfl:=sj aF
        exact aG _ (f.k Z)
       ·refine Ax 12 24 Z f aH fun a f=> ?_
        refine Ax 13 24 Z f aH fun a f=>Ax 14 24 Z f aH fun a f=>Ax 15 24 Z f aH fun a f=>Ax 16 24 Z f aH fun a f=>Ax 17 24 Z f aH fun a f=>Ax 18 24 Z f aH fun a f=>Ax 19 24 Z f aH fun a f=>Ax 20 24 Z f aH fun a f=>Ax 21 24 Z f aH fun a f=>q_p (hw:=wo f aD) 22 24 Z f (fun _=>A2 (f.eval Z) aH (f.eval Z)) fun a f=> ?_
        obtain rfl:=sj aF
        exact aG _ (f.k Z)
   ·refine Ag f Z al ?_
    refine Aw Z ?_
    obtain rfl:=sj ai
    obtain rfl:=aj _ rfl
    exact⟨_,Z,_,ak,f.weak trivial,m⟩
  ·rintro a w ⟨_,rfl,ad,aU,f,m⟩
   refine Ac ?_
   refine Ad f Z fun a f=>Aa ?_
   refine Ao ?_
   obtain rfl:=sj hd
   exact⟨[(.bool true)],⟨f.get _ _ Z,trivial⟩,f.defers,_,[],aU,m,Z,Z⟩
theorem Wk.f {W w:World}{G:GH}{H:List Itm}{v0:Value}{x0:(List Int)}{x1:Int}(m:Mem W G w (H))(h0:RSl (RI .i64) G v0 x0){y:Bool}(hd:D.f x0 x1=some y):
  Calls Tryz.prog 84 #[v0,(.int .i64 x1)] w (Res W G H (fun _ Ho v=>Ho=[]∧v=(.bool y))):=by
 refine Aq (args:=[v0,(.int .i64 x1)]) (N:=18) [.tmp 4] Tryz.func84 Z Z (Nat.le_of_ble_eq_true Z) Z fun a f=> ?_
 unfold D.f at hd
 refine Ac ?_
 refine Ad f Z fun a f=>Aa (Af (Ac ?_))
 refine Ad f Z fun a f=>Aa ?_
 obtain⟨aa,ab,hd⟩:=bind_some hd
 refine AF (fun a w=>∃q_19':Unit,aa= .inl q_19'∧∃(ac:GH),GLe G ac∧Fr a 18 []∧Mem W ac w (H)) ?_ ?_
 ·refine Aj ?_
  refine AC (fun ad a w=>∃ae:Int,ae=ad∧∃(af:GH),GLe G af∧Fr a 18 [(0,v0),(1,(.int .i64 x1)),(5,(.int .i64 ae))]∧Mem W af w (H)) ab ⟨_,Z,_,gr,f.k Z,m⟩ ?_
  clear ab f m
  rintro ad ag ah ai a w ⟨ae,rfl,af,aj,f,m⟩
  have h0:=rd1 aj h0
  refine Af (Ac ?_)
  refine Ab f Z fun a f=>Ab f Z fun a f=>AT Tryz.underlying31 f Z Z h0 fun a f=>Ai f Z Z AA fun a f=>Aa ?_
  rcases Ae ah with⟨ak,ah⟩|⟨ak,ah⟩
  ·refine Ak f Z ak ?_
   refine Al ?_
   refine Af (Aj (Ac ?_))
   refine Ab f Z fun a f=>Ab f Z fun a f=> ?_
   obtain⟨al,am,ah⟩:=bind_some ah
   refine AZ T31 f Z Z Z h0 am fun an ao a ap aq f=> ?_
   subst aq
   refine Au m Pl2 f Z Z ap fun a f=>Ab f Z fun a f=>Ai f Z Z BH fun a f=>Aa ?_
   rcases Ae ah with⟨ar,ah⟩|⟨ar,ah⟩
   ·refine Ak f Z ar ?_
    refine Ac ?_
    refine Ad f Z fun a f=>Aa ?_
    refine Ao ?_
    obtain rfl:=sj ah
    obtain rfl:=ai _ rfl
    obtain rfl:=sj hd
    exact⟨[(.bool true)],⟨f.get _ _ Z,trivial⟩,f.defers,_,[],aj,m,Z,Z⟩
   ·refine Ag f Z ar ?_
    refine Al ?_
    refine Ah ?_
    refine Ab f Z fun a f=>Ai f Z Z As fun a f=>Ad f Z fun a f=>Aa ?_
    obtain rfl:=sj ah
    exact⟨_,Z,_,Z,_,aj,f.k Z,m⟩
  ·refine Ag f Z ak ?_
   refine Aw Z ?_
   obtain rfl:=sj ah
   obtain rfl:=ai _ rfl
   exact⟨_,Z,_,aj,f.weak trivial,m⟩
 ·rintro a w ⟨_,rfl,ac,au,f,m⟩
  refine Ac ?_
  refine Ad f Z fun a f=>Aa ?_
  refine Ao ?_
  obtain rfl:=sj hd
  exact⟨[(.bool false)],⟨f.get _ _ Z,trivial⟩,f.defers,_,[],au,m,Z,Z⟩
theorem Wk.G {W w:World}{G:GH}{H:List Itm}{v0_0:Value}{x0_0:(List (List Int))}(m:Mem W G w (H))(h0_0:RSl (RSl (RI .i64)) G v0_0 x0_0){y:Bool}(hd:D.G x0_0=some y):
  Calls Tryz.prog 48 #[(.agg #[v0_0])] w (Res W G H (fun _ Ho v=>Ho=[]∧v=(.bool y))):=by
 refine Aq (args:=[(.agg #[v0_0])]) (N:=64) [.tmp 2] Tryz.func48 Z Z (Nat.le_of_ble_eq_true Z) Z fun a f=> ?_
 unfold D.G at hd
 refine Ac ?_
 refine Bm (cs:=[v0_0]) m f Z Z Z fun aa w a m f=>Ad f Z fun a f=>Aa (Ac ?_)
 refine AE 0 0 (ds:=[v0_0]) m Bo f Z Z Z Z Z fun a f=> ?_
 obtain⟨ab,ac,hd⟩:=bind_some hd
 refine Bc f Z Tryz.call42 (Wk.a m h0_0 ac) fun ad w ae m a f=> ?_
 have h0_0:=rd2 ae h0_0
 refine Ad f Z fun a f=>Aa (Af (Ac ?_))
 refine Ab f Z fun a f=> ?_
 obtain⟨af,ag,hd⟩:=bind_some hd
 refine Bc f Z Tryz.call66 (Wk.c m ag) fun ah w ai m a f=> ?_
 have h0_0:=rd2 ai h0_0
 refine l_o f (Bs (f.eval Z)) fun a f=>Aa ?_
 rcases Ae hd with⟨aj,hd⟩|⟨aj,hd⟩
 ·refine Ak f Z aj ?_
  refine Ac ?_
  refine Ad f Z fun a f=>Aa ?_
  refine Ao ?_
  have m:Mem W ah w H:=Mem.drop (H':=[Itm.box aa 29 [v0_0]]) m
  obtain rfl:=sj hd
  exact⟨[(.bool false)],⟨f.get _ _ Z,trivial⟩,f.defers,_,[],(gt ae ai),m,Z,Z⟩
 ·refine Ag f Z aj ?_
  refine Al ?_
  refine Af (Ac ?_)
  refine Ad f Z fun a f=>Aa ?_
  obtain⟨ak,al,hd⟩:=bind_some hd
  refine AF (fun a w=>∃q_138':Unit,ak= .inl q_138'∧∃(am:GH),GLe ah am∧Fr a 64 [(1,(.pointer (some ⟨aa,0,none⟩))),(3,(.int .i64 ab))]∧Mem W am w (Itm.box aa 29 [v0_0]::H)) ?_ ?_
  ·refine Aj ?_
   refine AC (fun an a w=>∃ao:Int,ao=an∧∃(ap:GH),GLe ah ap∧Fr a 64 [(1,(.pointer (some ⟨aa,0,none⟩))),(3,(.int .i64 ab)),(4,(.int .i64 ao))]∧Mem W ap w (Itm.box aa 29 [v0_0]::H)) al ⟨_,Z,_,gr,f.k Z,m⟩ ?_
   clear al f m
   rintro an aq ar au a w ⟨ao,rfl,ap,av,f,m⟩
   have h0_0:=rd2 av h0_0
   refine Af (Ac ?_)
   refine Ab f Z fun a f=>Ab f Z fun a f=>Ai f Z Z AA fun a f=>Aa ?_
   rcases Ae ar with⟨aw,ar⟩|⟨aw,ar⟩
   ·refine Ak f Z aw ?_
    refine Al ?_
    refine Af (Aj (Ac ?_))
    refine Bk Tryz.underlying29 Z Tryz.sizeOf27 f Z fun a f=>Ay 0 0 m AX f Z Z Z Z fun a f=>Ab f Z fun a f=> ?_
    obtain⟨ax,ay,ar⟩:=bind_some ar
    refine AZ T27 f Z Z Z h0_0 ay fun az aA a aB aC f=>Au m AO f Z Z aB fun a f=>Ab f Z fun a f=> ?_
    obtain⟨aD,aE,ar⟩:=bind_some ar
    refine Bc f Z Tryz.call50 (Wk.z m aC aE) fun aF w aG m a f=> ?_
    have h0_0:=rd2 aG h0_0
    have aB:=At.mono aG aB
    have aC:=rd1 aG aC
    refine l_o f (Bs (f.eval Z)) fun a f=>Ab f Z fun a f=> ?_
    obtain⟨aH,aI,ar⟩:=bind_some ar
    refine BA 8 (fun a w=>∃aJ,GLe aF aJ∧Mem W aJ w (Itm.box aa 29 [v0_0]::H)∧Fr a 64 [(1,(.pointer (some ⟨aa,0,none⟩))),(3,(.int .i64 ab)),(4,(.int .i64 ao)),(14,(.bool (decide (ao<ab)))),(17,(.pointer (some ⟨aa,0,none⟩))),(18,v0_0),(19,(.int .i64 ao)),(20,az),(21,aA),(22,(.int .i64 ab)),(23,(.bool aD)),(24,(.bool (!aD))),(25,(.bool (!aD))),(33,(.bool aH))]) ?_ ?_
    ·rcases Ae aI with⟨aK,aI⟩|⟨aK,aI⟩
     ·refine AB f aK fun a f=> ?_
      refine AB f aK fun a f=>AB f aK fun a f=>AB f aK fun a f=>AB f aK fun a f=>AB f aK fun a f=>AB f aK fun a f=>l_o f (A3 (f.eval Z) aK (f.eval Z)) fun a f=> ?_
      obtain rfl:=sj aI
      exact⟨_,gr,m,f.k Z⟩
     ·refine Az f aK ?_
      refine Bk Tryz.underlying29 Z Tryz.sizeOf27 f Z fun a f=>Az f aK ?_
      refine Ay 0 0 m AX f Z Z Z Z fun a f=>Az f aK ?_
      refine Ab f Z fun a f=>Az f aK ?_
      obtain⟨aL,aM,aI⟩:=bind_some aI
      refine AZ T27 f Z Z Z h0_0 aM fun aN aO a aP aQ f=>Az f aK ?_
      refine Au m AO f Z Z aP fun a f=>Az f aK ?_
      refine Ab f Z fun a f=>Az f aK ?_
      obtain⟨aR,aS,aI⟩:=bind_some aI
      refine Bc f Z Tryz.call84 (Wk.f m aQ aS) fun aT w aU m a f=> ?_
      have h0_0:=rd2 aU h0_0
      have aB:=At.mono aU aB
      have aC:=rd1 aU aC
      have aP:=At.mono aU aP
      have aQ:=rd1 aU aQ
      refine l_o f (A2 (f.eval Z) aK (f.eval Z)) fun a f=> ?_
      obtain rfl:=sj aI
      exact⟨_,aU,m,f.k Z⟩
    ·rintro a w ⟨aJ,aV,m,f⟩
     have h0_0:=rd2 aV h0_0
     have aB:=At.mono aV aB
     have aC:=rd1 aV aC
     refine Aa ?_
     rcases Ae ar with⟨aW,ar⟩|⟨aW,ar⟩
     ·refine Ak f Z aW ?_
      refine Ac ?_
      refine Ad f Z fun a f=>Aa ?_
      refine Ao ?_
      have m:Mem W aJ w H:=Mem.drop (H':=[Itm.box aa 29 [v0_0]]) m
      obtain rfl:=sj ar
      obtain rfl:=au _ rfl
      obtain rfl:=sj hd
      exact⟨[(.bool false)],⟨f.get _ _ Z,trivial⟩,f.defers,_,[],(gt ae (gt ai (gt av (gt aG aV)))),m,Z,Z⟩
     ·refine Ag f Z aW ?_
      refine Al ?_
      refine Ah ?_
      refine Ab f Z fun a f=>Ai f Z Z As fun a f=>Ad f Z fun a f=>Aa ?_
      obtain rfl:=sj ar
      exact⟨_,Z,_,Z,_,(gt av (gt aG aV)),f.k Z,m⟩
   ·refine Ag f Z aw ?_
    refine Aw Z ?_
    obtain rfl:=sj ar
    obtain rfl:=au _ rfl
    exact⟨_,Z,_,av,f.k Z,m⟩
  ·rintro a w ⟨_,rfl,am,aX,f,m⟩
   have h0_0:=rd2 aX h0_0
   refine Af (Ac ?_)
   refine Ad f Z fun a f=>Aa ?_
   obtain⟨aY,aZ,hd⟩:=bind_some hd
   refine AF (fun a w=>∃q_545':Unit,aY= .inl q_545'∧∃(a0:GH),GLe am a0∧Fr a 64 []∧Mem W a0 w (H)) ?_ ?_
   ·refine Aj ?_
    refine AC (fun a1 a w=>∃a2:Int,a2=a1∧∃(a3:GH),GLe am a3∧Fr a 64 [(1,(.pointer (some ⟨aa,0,none⟩))),(3,(.int .i64 ab)),(5,(.int .i64 a2))]∧Mem W a3 w (Itm.box aa 29 [v0_0]::H)) aZ ⟨_,Z,_,gr,f.k Z,m⟩ ?_
    clear aZ f m
    rintro a1 a4 a5 a6 a w ⟨a2,rfl,a3,a7,f,m⟩
    have h0_0:=rd2 a7 h0_0
    refine Af (Ac ?_)
    refine Ab f Z fun a f=>Ab f Z fun a f=>Ai f Z Z AA fun a f=>Aa ?_
    rcases Ae a5 with⟨a8,a5⟩|⟨a8,a5⟩
    ·refine Ak f Z a8 ?_
     refine Al ?_
     refine Af (Aj (Ac ?_))
     refine Ad f Z fun a f=>Aa ?_
     obtain⟨a9,ba,a5⟩:=bind_some a5
     refine AF (fun a w=>∃q_759':Unit,a9= .inl q_759'∧∃(bb:GH),GLe a3 bb∧Fr a 64 [(1,(.pointer (some ⟨aa,0,none⟩))),(3,(.int .i64 ab)),(5,(.int .i64 a2))]∧Mem W bb w (Itm.box aa 29 [v0_0]::H)) ?_ ?_
     ·refine Aj ?_
      refine AC (fun bc a w=>∃bd:Int,bd=bc∧∃(be:GH),GLe a3 be∧Fr a 64 [(1,(.pointer (some ⟨aa,0,none⟩))),(3,(.int .i64 ab)),(5,(.int .i64 a2)),(6,(.int .i64 bd))]∧Mem W be w (Itm.box aa 29 [v0_0]::H)) ba ⟨_,Z,_,gr,f.k Z,m⟩ ?_
      clear ba f m
      rintro bc bf bg bh a w ⟨bd,rfl,be,bi,f,m⟩
      have h0_0:=rd2 bi h0_0
      refine Af (Ac ?_)
      refine Ab f Z fun a f=>Bk Tryz.underlying29 Z Tryz.sizeOf27 f Z fun a f=>Ay 0 0 m AX f Z Z Z Z fun a f=>Ab f Z fun a f=> ?_
      obtain⟨bj,bk,bg⟩:=bind_some bg
      refine AZ T27 f Z Z Z h0_0 bk fun bl bm a bn bo f=>Au m AO f Z Z bn fun a f=>AT Tryz.underlying31 f Z Z bo fun a f=>Ai f Z Z AA fun a f=>Aa ?_
      rcases Ae bg with⟨bp,bg⟩|⟨bp,bg⟩
      ·refine Ak f Z bp ?_
       refine Al ?_
       refine Af (Aj (Af ?_))
       refine AY 15 AI (by kernel_rfl) m ?_
       refine BT 0 15 Tryz.underlying29 Z Tryz.sizeOf27 Z f Z fun a f=>BD 1 15 0 AX Z Z Z f Z fun a f=>BT 2 15 Tryz.underlying29 Z Tryz.sizeOf27 Z f Z fun a f=>BD 3 15 0 AX Z Z Z f Z fun a f=>Am 4 15 Z f Z fun a f=> ?_
       obtain⟨bq,br,bg⟩:=bind_some bg
       refine BF 5 15 T27 h0_0 br Z f Z Z fun bs bt a bu bv f=>BE 6 15 AO bu Z f Z fun a f=>Am 7 15 Z f Z fun a f=> ?_
       obtain⟨bw,bx,bg⟩:=bind_some bg
       refine BF 8 15 T31 bv bx Z f Z Z fun bz bA a bB bC f=> ?_
       subst bC
       refine BE 9 15 Pl2 bB Z f Z fun a f=> ?_
       obtain⟨bD,bE,bg⟩:=bind_some bg
       refine BF 10 15 T27 h0_0 bE Z f Z Z fun bF bG a bH bI f=>BE 11 15 AO bH Z f Z fun a f=>Am 12 15 Z f Z fun a f=> ?_
       obtain⟨bJ,bK,bg⟩:=bind_some bg
       refine Ca (i:=13) 15 Z (by kernel_rfl) Z f Z Z Z Tryz.call84 (fun _ _ w bL m=>Wk.f m (rd1 bL bI) bK) fun a f=>q_p 14 15 Z f (fun _=>Bs (f.eval Z)) fun a f=>AU fun bM w bN m=> ?_
       have h0_0:=rd2 bN h0_0
       have bu:=At.mono bN bu
       have bv:=rd1 bN bv
       have bB:=At.mono bN bB
       have bH:=At.mono bN bH
       have bI:=rd1 bN bI
       refine Aa ?_
       rcases Ae bg with⟨bO,bg⟩|⟨bO,bg⟩
       ·refine Ak f Z bO ?_
        refine Ac ?_
        refine Ad f Z fun a f=>Aa ?_
        refine Ao ?_
        have m:Mem W bM w H:=Mem.drop (H':=[Itm.box aa 29 [v0_0]]) m
        obtain rfl:=sj bg
        obtain rfl:=bh _ rfl
        obtain rfl:=sj a5
        obtain rfl:=a6 _ rfl
        obtain rfl:=sj hd
        exact⟨[(.bool false)],⟨f.get _ _ Z,trivial⟩,f.defers,_,[],(gt ae (gt ai (gt aX (gt a7 (gt bi bN))))),m,Z,Z⟩
       ·refine Ag f Z bO ?_
        refine Al ?_
        refine Ah ?_
        refine Ab f Z fun a f=>Ai f Z Z As fun a f=>Ad f Z fun a f=>Aa ?_
        obtain rfl:=sj bg
        exact⟨_,Z,_,Z,_,(gt bi bN),f.k Z,m⟩
      ·refine Ag f Z bp ?_
       refine Aw Z ?_
       obtain rfl:=sj bg
       obtain rfl:=bh _ rfl
       exact⟨_,Z,_,bi,f.k Z,m⟩
     ·rintro a w ⟨_,rfl,bb,bP,f,m⟩
      have h0_0:=rd2 bP h0_0
      refine Ah ?_
      refine Ab f Z fun a f=>Ai f Z Z As fun a f=>Ad f Z fun a f=>Aa ?_
      obtain rfl:=sj a5
      exact⟨_,Z,_,Z,_,(gt a7 bP),f.k Z,m⟩
    ·refine Ag f Z a8 ?_
     refine Aw Z ?_
     have m:Mem W a3 w H:=Mem.drop (H':=[Itm.box aa 29 [v0_0]]) m
     obtain rfl:=sj a5
     obtain rfl:=a6 _ rfl
     exact⟨_,Z,_,a7,f.weak trivial,m⟩
   ·rintro a w ⟨_,rfl,a0,bQ,f,m⟩
    refine Ac ?_
    refine Ad f Z fun a f=>Aa ?_
    refine Ao ?_
    obtain rfl:=sj hd
    exact⟨[(.bool true)],⟨f.get _ _ Z,trivial⟩,f.defers,_,[],(gt ae (gt ai (gt aX bQ))),m,Z,Z⟩
theorem Wk.c0 {W w:World}{G:GH}{H:List Itm}{v0_0:Value}{x0_0:(List (List Int))}(m:Mem W G w (H))(h0_0:RSl (RSl (RI .i64)) G v0_0 x0_0){y:Bool}(hd:D.c0 x0_0=some y):
  Calls Tryz.prog 40 #[(.agg #[v0_0])] w (Res W G H (fun _ Ho v=>Ho=[]∧v=(.bool y))):=by
 refine Aq (args:=[(.agg #[v0_0])]) (N:=10) [.tmp 2] Tryz.func40 Z Z (Nat.le_of_ble_eq_true Z) Z fun a f=> ?_
 unfold D.c0 at hd
 refine Ac ?_
 refine Bm (cs:=[v0_0]) m f Z Z Z fun aa w a m f=>Ad f Z fun a f=>Aa (Ac ?_)
 refine AE 0 0 (ds:=[v0_0]) m Bo f Z Z Z Z Z fun a f=> ?_
 obtain⟨ab,ac,hd⟩:=bind_some hd
 refine Bc f Z Tryz.call48 (Wk.G m h0_0 ac) fun ad w ae m a f=> ?_
 have h0_0:=rd2 ae h0_0
 refine Ab f Z fun a f=> ?_
 obtain⟨af,ag,hd⟩:=bind_some hd
 refine BA 4 (fun a w=>∃ah,GLe ad ah∧Mem W ah w (Itm.box aa 29 [v0_0]::H)∧Fr a 10 [(0,(.agg #[v0_0])),(1,(.pointer (some ⟨aa,0,none⟩))),(3,(.agg #[v0_0])),(4,(.bool ab)),(5,(.bool ab)),(9,(.bool af))]) ?_ ?_
 ·rcases Ae ag with⟨ai,ag⟩|⟨ai,ag⟩
  ·refine Az f ai ?_
   refine AE 0 0 (ds:=[v0_0]) m Bo f Z Z Z Z Z fun a f=>Az f ai ?_
   obtain⟨aj,ak,ag⟩:=bind_some ag
   refine Bc f Z Tryz.call42 (Wk.a m h0_0 ak) fun al w am m a f=> ?_
   have h0_0:=rd2 am h0_0
   refine Az f ai ?_
   refine Ai f Z Z CK fun a f=>l_o f (A3 (f.eval Z) ai (f.eval Z)) fun a f=> ?_
   obtain rfl:=sj ag
   exact⟨_,am,m,f.k Z⟩
  ·refine AB f ai fun a f=> ?_
   refine AB f ai fun a f=>AB f ai fun a f=>l_o f (A2 (f.eval Z) ai (f.eval Z)) fun a f=> ?_
   obtain rfl:=sj ag
   exact⟨_,gr,m,f.k Z⟩
 ·rintro a w ⟨ah,an,m,f⟩
  have h0_0:=rd2 an h0_0
  refine Ad f Z fun a f=>Aa ?_
  refine Ao ?_
  have m:Mem W ah w H:=Mem.drop (H':=[Itm.box aa 29 [v0_0]]) m
  obtain rfl:=sj hd
  exact⟨[(.bool af)],⟨f.get _ _ Z,trivial⟩,f.defers,_,[],(gt ae an),m,Z,Z⟩
theorem Wk.L0 {W w:World}{G:GH}{H:List Itm}{v0_0:Value}{x0_0:(List (List Int))}(m:Mem W G w (H))(h0_0:RSl (RSl (RI .i64)) G v0_0 x0_0){y:((List Int))}(hd:D.L0 x0_0=some y):
  Calls Tryz.prog 41 #[(.agg #[v0_0])] w (Res W G H (fun G' Ho v=>∃r0:Value,∃i0:Itm,Ho=[i0]∧r0=v∧Ow (RI .i64) 2 G' i0 r0 y)):=by
 refine Aq (args:=[(.agg #[v0_0])]) (N:=26) [.tmp 2] Tryz.func41 Z Z (Nat.le_of_ble_eq_true Z) Z fun a f=> ?_
 unfold D.L0 at hd
 refine Ac ?_
 refine Bm (cs:=[v0_0]) m f Z Z Z fun aa w a m f=>Ad f Z fun a f=>Aa (Ac ?_)
 refine Ad f Z fun a f=>Aa (Af (Ac ?_))
 refine Ad f Z fun a f=>Aa ?_
 obtain⟨ab,ac,hd⟩:=bind_some hd
 refine AF (fun a w=>∃ad:Int,ad=ab∧∃(ae:GH),GLe G ae∧Fr a 26 [(3,(.int .i64 ad))]∧Mem W ae w (H)) ?_ ?_
 ·refine Aj ?_
  refine AC (fun af a w=>∃ag:Int,∃ah:Int,(ag,ah)=af∧∃(ai:GH),GLe G ai∧Fr a 26 [(1,(.pointer (some ⟨aa,0,none⟩))),(3,(.int .i64 ag)),(4,(.int .i64 ah))]∧Mem W ai w (Itm.box aa 29 [v0_0]::H)) ac ⟨_,_,Z,_,gr,f.k Z,m⟩ ?_
  clear ac f m
  rintro af aj ak al a w ⟨ag,ah,rfl,ai,am,f,m⟩
  have h0_0:=rd2 am h0_0
  refine Af (Ac ?_)
  refine Ab f Z fun a f=>AE 0 0 (ds:=[v0_0]) m Bo f Z Z Z Z Z fun a f=> ?_
  obtain⟨an,ao,ak⟩:=bind_some ak
  refine Bc f Z Tryz.call42 (Wk.a m h0_0 ao) fun ap w aq m a f=> ?_
  have h0_0:=rd2 aq h0_0
  refine Ai f Z Z AA fun a f=>Aa ?_
  rcases Ae ak with⟨ar,ak⟩|⟨ar,ak⟩
  ·refine Ak f Z ar ?_
   refine Al ?_
   refine Af (Aj (Ah ?_))
   refine Ab f Z fun a f=>Ai f Z Z DW fun a f=>Ad f Z fun a f=>Aa (Ah ?_)
   refine Ab f Z fun a f=>Ai f Z Z As fun a f=>Ad f Z fun a f=>Aa ?_
   obtain rfl:=sj ak
   exact⟨_,Z,_,_,Z,_,(gt am aq),f.k Z,m⟩
  ·refine Ag f Z ar ?_
   refine Aw Z ?_
   have m:Mem W ap w H:=Mem.drop (H':=[Itm.box aa 29 [v0_0]]) m
   obtain rfl:=sj ak
   obtain rfl:=al _ rfl
   exact⟨_,Z,_,(gt am aq),f.k Z,m⟩
 ·rintro a w ⟨ad,rfl,ae,au,f,m⟩
  refine Ac ?_
  refine Ab f Z fun a f=> ?_
  obtain⟨av,aw,hd⟩:=bind_some hd
  refine CU (R:=(RI .i64)) m T31 Z (by decide) Z f Z Z Z aw fun ax ay w a m az f=>Ad f Z fun a f=>Aa (Af (Ac ?_))
  refine Ad f Z fun a f=>Aa ?_
  obtain⟨aA,aB,hd⟩:=bind_some hd
  refine AF (fun a w=>∃aC:List Int,aC=aA∧∃(aD:GH) (aE:Itm),GLe ae aD∧Fr a 26 [(5,ay)]∧Mem W aD w (aE::H)∧Ow (RI .i64) 2 aD aE ay aC) ?_ ?_
  ·refine Aj ?_
   refine AC (fun aF a w=>∃aG:List Int,∃aH:Int,(aG,aH)=aF∧∃(aI:GH) (aJ:Itm),GLe ae aI∧Fr a 26 [(3,(.int .i64 ad)),(5,ay),(6,(.int .i64 aH))]∧Mem W aI w (aJ::H)∧Ow (RI .i64) 2 aI aJ ay aG) aB ⟨_,_,Z,_,ax,gr,f.k Z,m,az⟩ ?_
   clear aB f m
   rintro aF aK aL aM a w ⟨aG,aH,rfl,aI,aJ,aN,f,m,aO⟩
   refine Af (Ac ?_)
   refine Ab f Z fun a f=>Ab f Z fun a f=>Ai f Z Z AA fun a f=>Aa ?_
   rcases Ae aL with⟨aP,aL⟩|⟨aP,aL⟩
   ·refine Ak f Z aP ?_
    refine Al ?_
    refine Af (Aj (Ah ?_))
    refine Ab f Z fun a f=>Ab f Z fun a f=> ?_
    obtain⟨aQ,aR,aL⟩:=bind_some aL
    refine AV 0 m aO Z T31 f Z Z Z aR fun aS a aT f=>AH 0 m aO Z Tryz.sizeOf2 f Z Z aT aR Z Z Z fun aU w m aV=>Aa (Ah ?_)
    refine Ab f Z fun a f=>Ai f Z Z As fun a f=>Ad f Z fun a f=>Aa ?_
    obtain rfl:=sj aL
    exact⟨_,Z,_,_,Z,_,aU,aN,f.k Z,m,aV⟩
   ·refine Ag f Z aP ?_
    refine Aw Z ?_
    obtain rfl:=sj aL
    obtain rfl:=aM _ rfl
    exact⟨_,Z,_,aJ,aN,f.k Z,m,aO⟩
  ·rintro a w ⟨aC,rfl,aD,aE,aW,f,m,aX⟩
   refine Ac ?_
   refine Ab f Z fun a f=>Ad f Z fun a f=>Aa ?_
   refine Ao ?_
   obtain rfl:=sj hd
   exact⟨[ay],⟨f.get _ _ Z,trivial⟩,f.defers,_,[aE],(gt au aW),m,_,_,Z,Z,aX⟩
theorem Wk.v {W w:World}{G:GH}{H:List Itm}{x0:Bool}(m:Mem W G w (H)){y:Int}(hd:D.v x0=some y):
  Calls Tryz.prog 114 #[(.bool x0)] w (Res W G H (fun _ Ho v=>Ho=[]∧v=(.int .i64 y))):=by
 refine Aq (args:=[(.bool x0)]) (N:=4) [.tmp 2] Tryz.func114 Z Z (Nat.le_of_ble_eq_true Z) Z fun a f=> ?_
 unfold D.v at hd
 refine Ac ?_
 refine Ad f Z fun a f=>Aa (Af (Ac ?_))
 refine Ab f Z fun a f=>Aa ?_
 rcases Ae hd with⟨aa,hd⟩|⟨aa,hd⟩
 ·refine Ak f Z aa ?_
  refine Ac ?_
  refine Ad f Z fun a f=>Aa ?_
  refine Ao ?_
  obtain rfl:=sj hd
  exact⟨[(.int .i64 1)],⟨f.get _ _ Z,trivial⟩,f.defers,_,[],gr,m,Z,Z⟩
 ·refine Ag f Z aa ?_
  refine Al ?_
  refine Ac ?_
  refine Ad f Z fun a f=>Aa ?_
  refine Ao ?_
  obtain rfl:=sj hd
  exact⟨[(.int .i64 0)],⟨f.get _ _ Z,trivial⟩,f.defers,_,[],gr,m,Z,Z⟩
theorem Wk.w0 {W w:World}{G:GH}{H:List Itm}{v0:Value}{x0:(List Bool)}(m:Mem W G w (H))(h0:RSl RB G v0 x0){y:Int}(hd:D.w0 x0=some y):
  Calls Tryz.prog 83 #[v0] w (Res W G H (fun _ Ho v=>Ho=[]∧v=(.int .i64 y))):=by
 refine Aq (args:=[v0]) (N:=21) [.tmp 2] Tryz.func83 Z Z (Nat.le_of_ble_eq_true Z) Z fun a f=> ?_
 unfold D.w0 at hd
 refine Ac ?_
 refine Ad f Z fun a f=>Aa (Ac ?_)
 refine Ad f Z fun a f=>Aa (Af (Ac ?_))
 refine Ab f Z fun a f=>AT Tryz.underlying71 f Z Z h0 fun a f=>Ai f Z Z A8 fun a f=>Ad f Z fun a f=>Aa ?_
 obtain⟨aa,ab,hd⟩:=bind_some hd
 refine AF (fun a w=>∃ac:Int,ac=aa∧∃(ad:GH),GLe G ad∧Fr a 21 [(3,(.int .i64 ac))]∧Mem W ad w (H)) ?_ ?_
 ·refine Aj ?_
  refine AC (fun ae a w=>∃af:Int,∃ag:Int,(af,ag)=ae∧∃(ah:GH),GLe G ah∧Fr a 21 [(0,v0),(3,(.int .i64 af)),(4,(.int .i64 ag))]∧Mem W ah w (H)) ab ⟨_,_,Z,_,gr,f.k Z,m⟩ ?_
  clear ab f m
  rintro ae ai aj ak a w ⟨af,ag,rfl,ah,al,f,m⟩
  have h0:=RSl.mono RB.mono _ _ _ _ al h0
  refine Af (Ac ?_)
  refine Ab f Z fun a f=>Ai f Z Z Cz fun a f=>Aa ?_
  rcases Ae aj with⟨am,aj⟩|⟨am,aj⟩
  ·refine Ak f Z am ?_
   refine Al ?_
   refine Af (Aj (Ah ?_))
   refine Ab f Z fun a f=>Ai f Z Z DW fun a f=>Ab f Z fun a f=>Ab f Z fun a f=> ?_
   obtain⟨an,ao,aj⟩:=bind_some aj
   refine AZ T71 f Z Z Z h0 ao fun ap aq a ar au f=> ?_
   subst au
   refine Au m Pl4 f Z Z ar fun a f=> ?_
   obtain⟨av,aw,aj⟩:=bind_some aj
   refine Bc f Z Tryz.call114 (Wk.v m aw) fun ax w ay m a f=> ?_
   have h0:=RSl.mono RB.mono _ _ _ _ ay h0
   have ar:=At.mono ay ar
   refine Ai f Z Z As fun a f=>Ad f Z fun a f=>Aa (Ah ?_)
   refine Ab f Z fun a f=>Ai f Z Z A8 fun a f=>Ad f Z fun a f=>Aa ?_
   obtain rfl:=sj aj
   exact⟨_,Z,_,_,Z,_,(gt al ay),f.k Z,m⟩
  ·refine Ag f Z am ?_
   refine Aw Z ?_
   obtain rfl:=sj aj
   obtain rfl:=ak _ rfl
   exact⟨_,Z,_,al,f.k Z,m⟩
 ·rintro a w ⟨ac,rfl,ad,az,f,m⟩
  refine Ac ?_
  refine Ab f Z fun a f=>Ad f Z fun a f=>Aa ?_
  refine Ao ?_
  obtain rfl:=sj hd
  exact⟨[(.int .i64 ac)],⟨f.get _ _ Z,trivial⟩,f.defers,_,[],az,m,Z,Z⟩
theorem Wk.e {W w:World}{G:GH}{H:List Itm}{v0:Value}{x0:(List Int)}(m:Mem W G w (H))(h0:RSl (RI .i64) G v0 x0){y:((List Int))}(hd:D.e x0=some y):
  Calls Tryz.prog 95 #[v0] w (Res W G H (fun G' Ho v=>∃r0:Value,∃i0:Itm,Ho=[i0]∧r0=v∧Ow (RI .i64) 2 G' i0 r0 y)):=by
 refine Aq (args:=[v0]) (N:=6) [.tmp 2] Tryz.func95 Z Z (Nat.le_of_ble_eq_true Z) Z fun a f=> ?_
 unfold D.e at hd
 refine Ac ?_
 refine Ad f Z fun a f=>Aa (Ac ?_)
 refine A7 (R:=(RI .i64)) (xs:=([]:List Int)) (RI.one _) m T31 f Z Z Z (by decide) (All2.nil _) fun aa ab w a m ac f=>Ab f Z fun a f=> ?_
 obtain⟨ad,ae,hd⟩:=bind_some hd
 refine Bh (RI.one _) 0 m ac Z T31 Z (by decide) f Z Z Z (h0.src m) ae fun af ag w a m ah f=>Ad f Z fun a f=>Aa ?_
 refine Ao ?_
 obtain rfl:=sj hd
 exact⟨[ag],⟨f.get _ _ Z,trivial⟩,f.defers,_,[af],gr,m,_,_,Z,Z,ah⟩
theorem Wk.h {W w:World}{G:GH}{H:List Itm}{v0:Value}{x0:(List Int)}{x1:Int}(m:Mem W G w (H))(h0:RSl (RI .i64) G v0 x0){y:((List Int))}(hd:D.h x0 x1=some y):
  Calls Tryz.prog 85 #[v0,(.int .i64 x1)] w (Res W G H (fun G' Ho v=>∃r0:Value,Ho=[]∧r0=v∧RSl (RI .i64) G' r0 y)):=by
 refine Aq (args:=[v0,(.int .i64 x1)]) (N:=46) [.tmp 4] Tryz.func85 Z Z (Nat.le_of_ble_eq_true Z) Z fun a f=> ?_
 unfold D.h at hd
 refine Ac ?_
 refine Ad f Z fun a f=>Aa (Ac ?_)
 refine Ad f Z fun a f=>Aa (Af ?_)
 obtain⟨aa,ab,hd⟩:=bind_some hd
 refine AF (fun a w=>∃ac:Int,ac=aa∧∃(ad:GH),GLe G ad∧Fr a 46 [(0,v0),(1,(.int .i64 x1)),(5,(.int .i64 ac))]∧Mem W ad w (H)) ?_ ?_
 ·refine Aj ?_
  refine AC (fun ae a w=>∃af:Int,af=ae∧∃(ag:GH),GLe G ag∧Fr a 46 [(0,v0),(1,(.int .i64 x1)),(5,(.int .i64 af))]∧Mem W ag w (H)) ab ⟨_,Z,_,gr,f.k Z,m⟩ ?_
  clear ab f m
  rintro ae ah ai aj a w ⟨af,rfl,ag,ak,f,m⟩
  have h0:=rd1 ak h0
  refine Af (Ac ?_)
  refine Ab f Z fun a f=>Ab f Z fun a f=>AT Tryz.underlying31 f Z Z h0 fun a f=>Ai f Z Z AA fun a f=>Ab f Z fun a f=> ?_
  obtain⟨al,am,ai⟩:=bind_some ai
  refine BA 7 (fun a w=>∃an,GLe ag an∧Mem W an w (H)∧Fr a 46 [(0,v0),(1,(.int .i64 x1)),(5,(.int .i64 af)),(7,(.int .i64 af)),(8,v0),(9,(.int .i64 (x0.length:Int))),(10,(.bool (decide (af<(x0.length:Int))))),(11,(.bool (decide (af<(x0.length:Int))))),(18,(.bool al))]) ?_ ?_
  ·rcases Ae am with⟨ao,am⟩|⟨ao,am⟩
   ·refine Az f ao ?_
    refine Ab f Z fun a f=>Az f ao ?_
    refine Ab f Z fun a f=>Az f ao ?_
    obtain⟨ap,aq,am⟩:=bind_some am
    refine AZ T31 f Z Z Z h0 aq fun ar au a av aw f=> ?_
    subst aw
    refine Az f ao ?_
    refine Au m Pl2 f Z Z av fun a f=>Az f ao ?_
    refine Ab f Z fun a f=>Az f ao ?_
    refine Ai f Z Z AA fun a f=>l_o f (A3 (f.eval Z) ao (f.eval Z)) fun a f=> ?_
    obtain rfl:=sj am
    exact⟨_,gr,m,f.k Z⟩
   ·refine AB f ao fun a f=> ?_
    refine AB f ao fun a f=>AB f ao fun a f=>AB f ao fun a f=>AB f ao fun a f=>AB f ao fun a f=>l_o f (A2 (f.eval Z) ao (f.eval Z)) fun a f=> ?_
    obtain rfl:=sj am
    exact⟨_,gr,m,f.k Z⟩
  ·rintro a w ⟨an,ax,m,f⟩
   have h0:=rd1 ax h0
   refine Aa ?_
   rcases Ae ai with⟨ay,ai⟩|⟨ay,ai⟩
   ·refine Ak f Z ay ?_
    refine Al ?_
    refine Aj (Ah ?_)
    refine Ab f Z fun a f=>Ai f Z Z As fun a f=>Ad f Z fun a f=>Aa ?_
    obtain rfl:=sj ai
    exact⟨_,Z,_,Z,_,(gt ak ax),f.k Z,m⟩
   ·refine Ag f Z ay ?_
    refine Aw Z ?_
    obtain rfl:=sj ai
    obtain rfl:=aj _ rfl
    exact⟨_,Z,_,(gt ak ax),f.k Z,m⟩
 ·rintro a w ⟨ac,rfl,ad,az,f,m⟩
  have h0:=rd1 az h0
  refine Af (Ac ?_)
  refine Ab f Z fun a f=>Ab f Z fun a f=>AT Tryz.underlying31 f Z Z h0 fun a f=>Ai f Z Z AA fun a f=>Ab f Z fun a f=> ?_
  obtain⟨aA,aB,hd⟩:=bind_some hd
  refine BA 7 (fun a w=>∃aC,GLe ad aC∧Mem W aC w (H)∧Fr a 46 [(0,v0),(1,(.int .i64 x1)),(5,(.int .i64 ac)),(21,(.int .i64 ac)),(22,v0),(23,(.int .i64 (x0.length:Int))),(24,(.bool (decide (ac<(x0.length:Int))))),(25,(.bool (decide (ac<(x0.length:Int))))),(32,(.bool aA))]) ?_ ?_
  ·rcases Ae aB with⟨aD,aB⟩|⟨aD,aB⟩
   ·refine Az f aD ?_
    refine Ab f Z fun a f=>Az f aD ?_
    refine Ab f Z fun a f=>Az f aD ?_
    obtain⟨aE,aF,aB⟩:=bind_some aB
    refine AZ T31 f Z Z Z h0 aF fun aG aH a aI aJ f=> ?_
    subst aJ
    refine Az f aD ?_
    refine Au m Pl2 f Z Z aI fun a f=>Az f aD ?_
    refine Ab f Z fun a f=>Az f aD ?_
    refine Ai f Z Z BH fun a f=>l_o f (A3 (f.eval Z) aD (f.eval Z)) fun a f=> ?_
    obtain rfl:=sj aB
    exact⟨_,gr,m,f.k Z⟩
   ·refine AB f aD fun a f=> ?_
    refine AB f aD fun a f=>AB f aD fun a f=>AB f aD fun a f=>AB f aD fun a f=>AB f aD fun a f=>l_o f (A2 (f.eval Z) aD (f.eval Z)) fun a f=> ?_
    obtain rfl:=sj aB
    exact⟨_,gr,m,f.k Z⟩
  ·rintro a w ⟨aC,aK,m,f⟩
   have h0:=rd1 aK h0
   refine Aa ?_
   rcases Ae hd with⟨aL,hd⟩|⟨aL,hd⟩
   ·refine Ak f Z aL ?_
    refine Ac ?_
    refine Ab f Z fun a f=>Ad f Z fun a f=>Aa ?_
    refine Ao ?_
    obtain rfl:=sj hd
    exact⟨[v0],⟨f.get _ _ Z,trivial⟩,f.defers,_,[],(gt az aK),m,_,Z,Z,h0⟩
   ·refine Ag f Z aL ?_
    refine Al ?_
    refine Ac ?_
    refine Ab f Z fun a f=>Ab f Z fun a f=> ?_
    obtain⟨aM,aN,hd⟩:=bind_some hd
    refine Fj T31 f Z Z h0 (.inl ⟨Z,Z⟩) (.inr ⟨_,_,Z,Z⟩) aN fun aO a aP f=> ?_
    obtain⟨aQ,aR,hd⟩:=bind_some hd
    refine AK f Z Tryz.call95 (Wk.e m aP aR) fun aS aT aU w aV m aW a f=> ?_
    obtain⟨aX,aY,rfl,rfl,aZ⟩:=aW
    have h0:=rd1 aV h0
    have aP:=rd1 aV aP
    refine Ab f Z fun a f=>A7 (R:=(RI .i64)) (xs:=([x1]:List Int)) (RI.one _) m T31 f Z Z Z (by decide) (All2.cons Z (All2.nil _)) fun a0 a1 w a m a2 f=> ?_
    obtain⟨a3,a4,hd⟩:=bind_some hd
    refine Bh (RI.one _) 1 m aZ Z T31 Z (by decide) f Z Z Z (Ow.src (j:=0) a2 m Z) a4 fun a5 a6 w a m a7 f=>Ad f Z fun a f=>Aa (Ac ?_)
    refine Ab f Z fun a f=>Ab f Z fun a f=>Ab f Z fun a f=> ?_
    obtain⟨a8,a9,hd⟩:=bind_some hd
    refine Fj T31 f Z Z h0 (.inr ⟨_,_,Z,Z⟩) (.inl ⟨Z,Z⟩) a9 fun ba a bb f=> ?_
    obtain⟨bc,bd,hd⟩:=bind_some hd
    refine Bh (RI.one _) 1 m a7 Z T31 Z (by decide) f Z Z Z (bb.src m) bd fun be bf w a m bg f=>Ad f Z fun a f=>Aa ?_
    refine Ao ?_
    have m:=m.front 1 rfl
    obtain⟨bh,bi,m,bj⟩:=Ow.stamp (RI.mono _) bg m
    have h0:=rd1 bi h0
    have a2:=od1 bi a2
    have m:Mem W bh w H:=Mem.drop (H':=[a0]) m
    obtain rfl:=sj hd
    exact⟨[bf],⟨f.get _ _ Z,trivial⟩,f.defers,_,[],(gt az (gt aK (gt aV bi))),m,_,Z,Z,bj⟩
theorem Wk.e1 {W w:World}{G:GH}{H:List Itm}{v0:Value}{it0:Itm}{x0:(List Int)}{x1:Int}(m:Mem W G w (it0::H))(o0:Ow (RI .i64) 2 G it0 v0 x0){y:((List Int))}(hd:D.e1 x0 x1=some y):
  Calls Tryz.prog 85 #[v0,(.int .i64 x1)] w (Res W G H (fun G' Ho v=>∃r0:Value,∃i0:Itm,Ho=[i0]∧r0=v∧Ow (RI .i64) 2 G' i0 r0 y)):=by
 refine Aq (args:=[v0,(.int .i64 x1)]) (N:=46) [.tmp 4] Tryz.func85 Z Z (Nat.le_of_ble_eq_true Z) Z fun a f=> ?_
 unfold D.e1 at hd
 refine Ac ?_
 refine Ad f Z fun a f=>Aa (Ac ?_)
 refine Ad f Z fun a f=>Aa (Af ?_)
 obtain⟨aa,ab,hd⟩:=bind_some hd
 refine AF (fun a w=>∃ac:Int,ac=aa∧∃(ad:GH),GLe G ad∧Fr a 46 [(0,v0),(1,(.int .i64 x1)),(5,(.int .i64 ac))]∧Mem W ad w (it0::H)) ?_ ?_
 ·refine Aj ?_
  refine AC (fun ae a w=>∃af:Int,af=ae∧∃(ag:GH),GLe G ag∧Fr a 46 [(0,v0),(1,(.int .i64 x1)),(5,(.int .i64 af))]∧Mem W ag w (it0::H)) ab ⟨_,Z,_,gr,f.k Z,m⟩ ?_
  clear ab f m
  rintro ae ah ai aj a w ⟨af,rfl,ag,ak,f,m⟩
  have o0:=od1 ak o0
  refine Af (Ac ?_)
  refine Ab f Z fun a f=>Ab f Z fun a f=>Bw 0 m o0 Z Tryz.underlying31 f Z Z fun a f=>Ai f Z Z AA fun a f=>Ab f Z fun a f=> ?_
  obtain⟨al,am,ai⟩:=bind_some ai
  refine BA 7 (fun a w=>∃an,GLe ag an∧Mem W an w (it0::H)∧Fr a 46 [(0,v0),(1,(.int .i64 x1)),(5,(.int .i64 af)),(7,(.int .i64 af)),(8,v0),(9,(.int .i64 (x0.length:Int))),(10,(.bool (decide (af<(x0.length:Int))))),(11,(.bool (decide (af<(x0.length:Int))))),(18,(.bool al))]) ?_ ?_
  ·rcases Ae am with⟨ao,am⟩|⟨ao,am⟩
   ·refine Az f ao ?_
    refine Ab f Z fun a f=>Az f ao ?_
    refine Ab f Z fun a f=>Az f ao ?_
    obtain⟨ap,aq,am⟩:=bind_some am
    refine AV 0 m o0 Z T31 f Z Z Z aq fun ar a au f=>Az f ao ?_
    refine Bt 0 m o0 Z Pl2 f Z Z au aq fun av a aw f=> ?_
    subst aw
    refine Az f ao ?_
    refine Ab f Z fun a f=>Az f ao ?_
    refine Ai f Z Z AA fun a f=>l_o f (A3 (f.eval Z) ao (f.eval Z)) fun a f=> ?_
    obtain rfl:=sj am
    exact⟨_,gr,m,f.k Z⟩
   ·refine AB f ao fun a f=> ?_
    refine AB f ao fun a f=>AB f ao fun a f=>AB f ao fun a f=>AB f ao fun a f=>AB f ao fun a f=>l_o f (A2 (f.eval Z) ao (f.eval Z)) fun a f=> ?_
    obtain rfl:=sj am
    exact⟨_,gr,m,f.k Z⟩
  ·rintro a w ⟨an,ax,m,f⟩
   have o0:=od1 ax o0
   refine Aa ?_
   rcases Ae ai with⟨ay,ai⟩|⟨ay,ai⟩
   ·refine Ak f Z ay ?_
    refine Al ?_
    refine Aj (Ah ?_)
    refine Ab f Z fun a f=>Ai f Z Z As fun a f=>Ad f Z fun a f=>Aa ?_
    obtain rfl:=sj ai
    exact⟨_,Z,_,Z,_,(gt ak ax),f.k Z,m⟩
   ·refine Ag f Z ay ?_
    refine Aw Z ?_
    obtain rfl:=sj ai
    obtain rfl:=aj _ rfl
    exact⟨_,Z,_,(gt ak ax),f.k Z,m⟩
 ·rintro a w ⟨ac,rfl,ad,az,f,m⟩
  have o0:=od1 az o0
  refine Af (Ac ?_)
  refine Ab f Z fun a f=>Ab f Z fun a f=>Bw 0 m o0 Z Tryz.underlying31 f Z Z fun a f=>Ai f Z Z AA fun a f=>Ab f Z fun a f=> ?_
  obtain⟨aA,aB,hd⟩:=bind_some hd
  refine BA 7 (fun a w=>∃aC,GLe ad aC∧Mem W aC w (it0::H)∧Fr a 46 [(0,v0),(1,(.int .i64 x1)),(5,(.int .i64 ac)),(21,(.int .i64 ac)),(22,v0),(23,(.int .i64 (x0.length:Int))),(24,(.bool (decide (ac<(x0.length:Int))))),(25,(.bool (decide (ac<(x0.length:Int))))),(32,(.bool aA))]) ?_ ?_
  ·rcases Ae aB with⟨aD,aB⟩|⟨aD,aB⟩
   ·refine Az f aD ?_
    refine Ab f Z fun a f=>Az f aD ?_
    refine Ab f Z fun a f=>Az f aD ?_
    obtain⟨aE,aF,aB⟩:=bind_some aB
    refine AV 0 m o0 Z T31 f Z Z Z aF fun aG a aH f=>Az f aD ?_
    refine Bt 0 m o0 Z Pl2 f Z Z aH aF fun aI a aJ f=> ?_
    subst aJ
    refine Az f aD ?_
    refine Ab f Z fun a f=>Az f aD ?_
    refine Ai f Z Z BH fun a f=>l_o f (A3 (f.eval Z) aD (f.eval Z)) fun a f=> ?_
    obtain rfl:=sj aB
    exact⟨_,gr,m,f.k Z⟩
   ·refine AB f aD fun a f=> ?_
    refine AB f aD fun a f=>AB f aD fun a f=>AB f aD fun a f=>AB f aD fun a f=>AB f aD fun a f=>l_o f (A2 (f.eval Z) aD (f.eval Z)) fun a f=> ?_
    obtain rfl:=sj aB
    exact⟨_,gr,m,f.k Z⟩
  ·rintro a w ⟨aC,aK,m,f⟩
   have o0:=od1 aK o0
   refine Aa ?_
   rcases Ae hd with⟨aL,hd⟩|⟨aL,hd⟩
   ·refine Ak f Z aL ?_
    refine Ac ?_
    refine Ab f Z fun a f=>Ad f Z fun a f=>Aa ?_
    refine Ao ?_
    obtain rfl:=sj hd
    exact⟨[v0],⟨f.get _ _ Z,trivial⟩,f.defers,_,[it0],(gt az aK),m,_,_,Z,Z,o0⟩
   ·refine Ag f Z aL ?_
    refine Al ?_
    refine Ac ?_
    refine Ab f Z fun a f=>Ab f Z fun a f=> ?_
    obtain⟨aM,aN,m,aO⟩:=Ow.stamp (RI.mono _) o0 m
    obtain⟨aP,aQ,hd⟩:=bind_some hd
    refine Fj T31 f Z Z aO (.inl ⟨Z,Z⟩) (.inr ⟨_,_,Z,Z⟩) aQ fun aR a aS f=> ?_
    obtain⟨aT,aU,hd⟩:=bind_some hd
    refine AK f Z Tryz.call95 (Wk.e m aS aU) fun aV aW aX w aY m aZ a f=> ?_
    obtain⟨a0,a1,rfl,rfl,a2⟩:=aZ
    have aO:=rd1 aY aO
    have aS:=rd1 aY aS
    refine Ab f Z fun a f=>A7 (R:=(RI .i64)) (xs:=([x1]:List Int)) (RI.one _) m T31 f Z Z Z (by decide) (All2.cons Z (All2.nil _)) fun a3 a4 w a m a5 f=> ?_
    obtain⟨a6,a7,hd⟩:=bind_some hd
    refine Bh (RI.one _) 1 m a2 Z T31 Z (by decide) f Z Z Z (Ow.src (j:=0) a5 m Z) a7 fun a8 a9 w a m ba f=>Ad f Z fun a f=>Aa (Ac ?_)
    refine Ab f Z fun a f=>Ab f Z fun a f=>Ab f Z fun a f=> ?_
    obtain⟨bb,bc,hd⟩:=bind_some hd
    refine Fj T31 f Z Z aO (.inr ⟨_,_,Z,Z⟩) (.inl ⟨Z,Z⟩) bc fun bd a be f=> ?_
    obtain⟨bf,bg,hd⟩:=bind_some hd
    refine Bh (RI.one _) 1 m ba Z T31 Z (by decide) f Z Z Z (be.src m) bg fun bh bi w a m bj f=>Ad f Z fun a f=>Aa ?_
    refine Ao ?_
    have m:=m.front 1 rfl
    have m:=m.eraseAt 1
    obtain rfl:=sj hd
    exact⟨[bi],⟨f.get _ _ Z,trivial⟩,f.defers,_,[bh],(gt az (gt aK (gt aN aY))),m,_,_,Z,Z,bj⟩
theorem Wk.F {W w:World}{G:GH}{H:List Itm}{v0_0:Value}{v1:Value}{x0_0:(List (List Int))}{x1:(List Bool)}{x2:Int}(m:Mem W G w (H))(h0_0:RSl (RSl (RI .i64)) G v0_0 x0_0)(h1:RSl RB G v1 x1){y:((List Int))}(hd:D.F x0_0 x1 x2=some y):
  Calls Tryz.prog 44 #[(.agg #[v0_0]),v1,(.int .i64 x2)] w (Res W G H (fun G' Ho v=>∃r0:Value,∃i0:Itm,Ho=[i0]∧r0=v∧Ow (RI .i64) 2 G' i0 r0 y)):=by
 refine Aq (args:=[(.agg #[v0_0]),v1,(.int .i64 x2)]) (N:=81) [.tmp 6] Tryz.func44 Z Z (Nat.le_of_ble_eq_true Z) Z fun a f=> ?_
 unfold D.F at hd
 refine Ac ?_
 refine Bm (cs:=[v0_0]) m f Z Z Z fun aa w a m f=>Ad f Z fun a f=>Aa (Ac ?_)
 refine Ab f Z fun a f=>A7 (R:=(RI .i64)) (xs:=([x2]:List Int)) (RI.one _) m T31 f Z Z Z (by decide) (All2.cons Z (All2.nil _)) fun ab ac w a m ad f=>Ad f Z fun a f=>Aa (Ac ?_)
 refine A7 (R:=(RI .i64)) (xs:=([]:List Int)) (RI.one _) m T31 f Z Z Z (by decide) (All2.nil _) fun ae af w a m ag f=>Ad f Z fun a f=>Aa (Af (Ac ?_))
 refine Ad f Z fun a f=>Aa ?_
 obtain⟨ah,ai,hd⟩:=bind_some hd
 refine AF (fun a w=>∃aj:List Int,aj=ah∧∃(ak:GH) (al:Value) (am:Itm),GLe G ak∧Fr a 81 [(8,al)]∧Mem W ak w (am::H)∧Ow (RI .i64) 2 ak am al aj) ?_ ?_
 ·refine Aj ?_
  have m:=m.front 1 rfl
  have m:=m.front 2 rfl
  refine AC (fun an a w=>∃ao:List Int,∃ap:List Int,∃aq:Int,(ao,ap,aq)=an∧∃(ar:GH) (au:Value) (av:Itm) (aw:Value) (ax:Itm),GLe G ar∧Fr a 81 [(1,v1),(2,(.int .i64 x2)),(3,(.pointer (some ⟨aa,0,none⟩))),(7,au),(8,aw),(9,(.int .i64 aq))]∧Mem W ar w (Itm.box aa 29 [v0_0]::av::ax::H)∧Ow (RI .i64) 2 ar av au ao∧Ow (RI .i64) 2 ar ax aw ap) ai ⟨_,_,_,Z,_,ac,ab,af,ae,gr,f.k Z,m,ad,ag⟩ ?_
  clear ai f m
  rintro an ay az aA a w ⟨ao,ap,aq,rfl,ar,au,av,aw,ax,aB,f,m,aC,aD⟩
  have h1:=RSl.mono RB.mono _ _ _ _ aB h1
  have h0_0:=rd2 aB h0_0
  refine Af (Ac ?_)
  refine Ab f Z fun a f=>Ab f Z fun a f=>Bw 1 m aC Z Tryz.underlying31 f Z Z fun a f=>Ai f Z Z AA fun a f=>Aa ?_
  rcases Ae az with⟨aE,az⟩|⟨aE,az⟩
  ·refine Ak f Z aE ?_
   refine Al ?_
   refine Af (Aj (Af ?_))
   refine AY 9 AI (by kernel_rfl) m ?_
   refine BT 0 9 Tryz.underlying29 Z Tryz.sizeOf27 Z f Z fun a f=>BD 1 9 0 AX Z Z Z f Z fun a f=>Am 2 9 Z f Z fun a f=>Am 3 9 Z f Z fun a f=> ?_
   obtain⟨aF,aG,az⟩:=bind_some az
   refine AW 4 9 1 m aC T31 aG Z f Z Z fun aH a aI f=>Bg 5 9 1 aC Pl2 aI aG Z f Z fun aJ a aK f=> ?_
   subst aK
   obtain⟨aL,aM,az⟩:=bind_some az
   refine BF 6 9 T27 h0_0 aM Z f Z Z fun aN aO a aP aQ f=>BE 7 9 AO aP Z f Z fun a f=>q_p 8 9 Z f (fun _=>A5 (f.eval Z)) fun a f=>AU fun aR w aS m=> ?_
   have h1:=RSl.mono RB.mono _ _ _ _ aS h1
   have aQ:=rd1 aS aQ
   have h0_0:=rd2 aS h0_0
   have aP:=At.mono aS aP
   have aC:=od1 aS aC
   have aD:=od1 aS aD
   refine Aa (Ac ?_)
   refine Ad f Z fun a f=>Aa ?_
   obtain⟨aT,aU,az⟩:=bind_some az
   refine AF (fun a w=>∃aV:List Int,∃aW:List Int,(aV,aW)=aT∧∃(aX:GH) (aY:Value) (aZ:Itm) (a0:Value) (a1:Itm),GLe aR aX∧Fr a 81 [(1,v1),(2,(.int .i64 x2)),(3,(.pointer (some ⟨aa,0,none⟩))),(7,aY),(8,a0),(9,(.int .i64 aq))]∧Mem W aX w (Itm.box aa 29 [v0_0]::aZ::a1::H)∧Ow (RI .i64) 2 aX aZ aY aV∧Ow (RI .i64) 2 aX a1 a0 aW) ?_ ?_
   ·refine Aj ?_
    refine AC (fun a2 a w=>∃a3:List Int,∃a4:List Int,∃a5:Int,(a3,a4,a5)=a2∧∃(a6:GH) (a7:Value) (a8:Itm) (a9:Value) (ba:Itm),GLe aR a6∧Fr a 81 [(1,v1),(2,(.int .i64 x2)),(3,(.pointer (some ⟨aa,0,none⟩))),(7,a7),(8,a9),(9,(.int .i64 aq)),(10,aO),(11,(.int .i64 a5))]∧Mem W a6 w (Itm.box aa 29 [v0_0]::a8::ba::H)∧Ow (RI .i64) 2 a6 a8 a7 a3∧Ow (RI .i64) 2 a6 ba a9 a4) aU ⟨_,_,_,Z,_,au,av,aw,ax,gr,f.k Z,m,aC,aD⟩ ?_
    clear aU f m
    rintro a2 bb bc bd a w ⟨a3,a4,a5,rfl,a6,a7,a8,a9,ba,be,f,m,bf,bg⟩
    have h1:=RSl.mono RB.mono _ _ _ _ be h1
    have aQ:=rd1 be aQ
    have h0_0:=rd2 be h0_0
    refine Af (Ac ?_)
    refine Ab f Z fun a f=>Ab f Z fun a f=>AT Tryz.underlying31 f Z Z aQ fun a f=>Ai f Z Z AA fun a f=>Aa ?_
    rcases Ae bc with⟨bh,bc⟩|⟨bh,bc⟩
    ·refine Ak f Z bh ?_
     refine Al ?_
     refine Af (Aj (Af (Ac ?_)))
     refine Ab f Z fun a f=>Ab f Z fun a f=>Ab f Z fun a f=> ?_
     obtain⟨bi,bj,bc⟩:=bind_some bc
     refine AZ T31 f Z Z Z aQ bj fun bk bl a bm bn f=> ?_
     subst bn
     refine Au m Pl2 f Z Z bm fun a f=> ?_
     obtain⟨bo,bp,bc⟩:=bind_some bc
     refine AZ T71 f Z Z Z h1 bp fun bq br a bs bt f=> ?_
     subst bt
     refine Au m Pl4 f Z Z bs fun a f=>Ab f Z fun a f=> ?_
     obtain⟨bu,bv,bc⟩:=bind_some bc
     refine BA 8 (fun a w=>∃bw,GLe a6 bw∧Mem W bw w (Itm.box aa 29 [v0_0]::a8::ba::H)∧Fr a 81 [(1,v1),(2,(.int .i64 x2)),(3,(.pointer (some ⟨aa,0,none⟩))),(7,a7),(8,a9),(9,(.int .i64 aq)),(10,aO),(11,(.int .i64 a5)),(32,(.bool (decide (a5<(aL.length:Int))))),(35,v1),(36,aO),(37,(.int .i64 a5)),(38,bk),(39,(.int .i64 bi)),(40,bq),(41,(.bool bo)),(42,(.bool bo)),(50,(.bool bu))]) ?_ ?_
     ·rcases Ae bv with⟨bx,bv⟩|⟨bx,bv⟩
      ·refine Az f bx ?_
       refine Ab f Z fun a f=>Az f bx ?_
       refine Ab f Z fun a f=>Az f bx ?_
       refine Ab f Z fun a f=>Az f bx ?_
       obtain⟨bz,bA,bv⟩:=bind_some bv
       refine AZ T31 f Z Z Z aQ bA fun bB bC a bD bE f=> ?_
       subst bE
       refine Az f bx ?_
       refine Au m Pl2 f Z Z bD fun a f=>Az f bx ?_
       obtain⟨bF,bG,bv⟩:=bind_some bv
       refine AK f Z Tryz.call84 (Ow.lendCall (RI.mono _) 1 bf m Z (fun bH bI m bJ=>Wk.f m bJ bG) (fun _ _ _ _ h=>h)) fun bK bL bM w bN m bO a f=> ?_
       obtain⟨rfl,rfl⟩:=bO
       have h1:=RSl.mono RB.mono _ _ _ _ bN h1
       have aQ:=rd1 bN aQ
       have bm:=At.mono bN bm
       have bs:=At.mono bN bs
       have bD:=At.mono bN bD
       have h0_0:=rd2 bN h0_0
       have bf:=od1 bN bf
       have bg:=od1 bN bg
       refine Az f bx ?_
       refine l_o f (Bs (f.eval Z)) fun a f=>l_o f (A3 (f.eval Z) bx (f.eval Z)) fun a f=> ?_
       obtain rfl:=sj bv
       exact⟨_,bN,m,f.k Z⟩
      ·refine AB f bx fun a f=> ?_
       refine AB f bx fun a f=>AB f bx fun a f=>AB f bx fun a f=>AB f bx fun a f=>AB f bx fun a f=>AB f bx fun a f=>l_o f (A2 (f.eval Z) bx (f.eval Z)) fun a f=> ?_
       obtain rfl:=sj bv
       exact⟨_,gr,m,f.k Z⟩
     ·rintro a w ⟨bw,bP,m,f⟩
      have h1:=RSl.mono RB.mono _ _ _ _ bP h1
      have aQ:=rd1 bP aQ
      have bm:=At.mono bP bm
      have bs:=At.mono bP bs
      have h0_0:=rd2 bP h0_0
      have bf:=od1 bP bf
      have bg:=od1 bP bg
      refine Aa ?_
      obtain⟨bQ,bR,bc⟩:=bind_some bc
      refine AF (fun a w=>∃bS:List Int,bS=bQ∧∃(bT:GH) (bU:Value) (bV:Itm),GLe bw bT∧Fr a 81 [(1,v1),(2,(.int .i64 x2)),(3,(.pointer (some ⟨aa,0,none⟩))),(7,bU),(8,a9),(9,(.int .i64 aq)),(10,aO),(11,(.int .i64 a5))]∧Mem W bT w (Itm.box aa 29 [v0_0]::bV::ba::H)∧Ow (RI .i64) 2 bT bV bU bS) ?_ ?_
      ·rcases Ae bR with⟨bW,bR⟩|⟨bW,bR⟩
       ·refine Ak f Z bW ?_
        refine Ah ?_
        refine Ab f Z fun a f=>Ab f Z fun a f=>Ab f Z fun a f=> ?_
        obtain⟨bX,bY,bR⟩:=bind_some bR
        refine AZ T31 f Z Z Z aQ bY fun bZ b0 a b1 b2 f=> ?_
        subst b2
        refine Au m Pl2 f Z Z b1 fun a f=>A7 (R:=(RI .i64)) (xs:=([bX]:List Int)) (RI.one _) m T31 f Z Z Z (by decide) (All2.cons Z (All2.nil _)) fun b3 b4 w a m b5 f=> ?_
        obtain⟨b6,b7,bR⟩:=bind_some bR
        refine Bh (RI.one _) 2 m bf Z T31 Z (by decide) f Z Z Z (Ow.src (j:=0) b5 m Z) b7 fun b8 b9 w a m ca f=>Ad f Z fun a f=>Aa ?_
        have m:=m.front 3 rfl
        have m:=m.front 3 rfl
        have m:Mem W bw w (Itm.box aa 29 [v0_0]::b8::ba::b3::H):=m.front 3 rfl
        have m:=m.eraseAt 3
        obtain rfl:=sj bR
        exact⟨_,Z,_,b9,b8,gr,f.k Z,m,ca⟩
       ·refine Ag f Z bW ?_
        refine Al ?_
        obtain rfl:=sj bR
        exact⟨_,Z,_,a7,a8,gr,f.k Z,m,bf⟩
      ·rintro a w ⟨bS,rfl,bT,bU,bV,cb,f,m,cc⟩
       have h1:=RSl.mono RB.mono _ _ _ _ cb h1
       have aQ:=rd1 cb aQ
       have h0_0:=rd2 cb h0_0
       have bg:=od1 cb bg
       refine Ac ?_
       refine Ab f Z fun a f=>Ab f Z fun a f=>Ab f Z fun a f=> ?_
       obtain⟨cd,ce,bc⟩:=bind_some bc
       refine AZ T31 f Z Z Z aQ ce fun cf cg a ch ci f=> ?_
       subst ci
       refine Au m Pl2 f Z Z ch fun a f=> ?_
       obtain⟨cj,ck,bc⟩:=bind_some bc
       refine AZ T71 f Z Z Z h1 ck fun cl cm a cn co f=> ?_
       subst co
       refine Au m Pl4 f Z Z cn fun a f=>l_o f (Bs (f.eval Z)) fun a f=>Ab f Z fun a f=> ?_
       obtain⟨cp,cq,bc⟩:=bind_some bc
       refine BA 7 (fun a w=>∃cr,GLe bT cr∧Mem W cr w (Itm.box aa 29 [v0_0]::bV::ba::H)∧Fr a 81 [(1,v1),(2,(.int .i64 x2)),(3,(.pointer (some ⟨aa,0,none⟩))),(7,bU),(8,a9),(9,(.int .i64 aq)),(10,aO),(11,(.int .i64 a5)),(58,v1),(59,aO),(60,(.int .i64 a5)),(61,cf),(62,(.int .i64 cd)),(63,cl),(64,(.bool cj)),(65,(.bool (!cj))),(66,(.bool (!cj))),(73,(.bool cp))]) ?_ ?_
       ·rcases Ae cq with⟨ct,cq⟩|⟨ct,cq⟩
        ·refine Az f ct ?_
         refine Ab f Z fun a f=>Az f ct ?_
         refine Ab f Z fun a f=>Az f ct ?_
         obtain⟨cu,cv,cq⟩:=bind_some cq
         refine AZ T31 f Z Z Z aQ cv fun cw cx a cy cz f=> ?_
         subst cz
         refine Az f ct ?_
         refine Au m Pl2 f Z Z cy fun a f=>Az f ct ?_
         refine Ab f Z fun a f=>Az f ct ?_
         refine Ai f Z Z Cs fun a f=>l_o f (A3 (f.eval Z) ct (f.eval Z)) fun a f=> ?_
         obtain rfl:=sj cq
         exact⟨_,gr,m,f.k Z⟩
        ·refine AB f ct fun a f=> ?_
         refine AB f ct fun a f=>AB f ct fun a f=>AB f ct fun a f=>AB f ct fun a f=>AB f ct fun a f=>l_o f (A2 (f.eval Z) ct (f.eval Z)) fun a f=> ?_
         obtain rfl:=sj cq
         exact⟨_,gr,m,f.k Z⟩
       ·rintro a w ⟨cr,cA,m,f⟩
        have h1:=RSl.mono RB.mono _ _ _ _ cA h1
        have aQ:=rd1 cA aQ
        have ch:=At.mono cA ch
        have cn:=At.mono cA cn
        have h0_0:=rd2 cA h0_0
        have cc:=od1 cA cc
        have bg:=od1 cA bg
        refine Aa ?_
        rcases Ae bc with⟨cB,bc⟩|⟨cB,bc⟩
        ·refine Ak f Z cB ?_
         refine Ah ?_
         refine Ab f Z fun a f=>Ab f Z fun a f=>Ab f Z fun a f=> ?_
         obtain⟨cC,cD,bc⟩:=bind_some bc
         refine AZ T31 f Z Z Z aQ cD fun cE cF a cG cH f=> ?_
         subst cH
         refine Au m Pl2 f Z Z cG fun a f=> ?_
         have m:=m.front 2 rfl
         obtain⟨cI,cJ,bc⟩:=bind_some bc
         refine AK f Z Tryz.call85 (Wk.e1 m bg cJ) fun cK cL cM w cN m cO a f=> ?_
         obtain⟨cP,cQ,rfl,rfl,cR⟩:=cO
         have h1:=RSl.mono RB.mono _ _ _ _ cN h1
         have aQ:=rd1 cN aQ
         have cG:=At.mono cN cG
         have h0_0:=rd2 cN h0_0
         have cc:=od1 cN cc
         refine Ad f Z fun a f=>Aa (Ah ?_)
         refine Ab f Z fun a f=>Ai f Z Z As fun a f=>Ad f Z fun a f=>Aa ?_
         have m:=m.front 2 rfl
         have m:=m.front 2 rfl
         obtain rfl:=sj bc
         exact⟨_,Z,_,_,_,Z,_,bU,bV,cP,cQ,(gt be (gt bP (gt cb (gt cA cN)))),f.k Z,m,cc,cR⟩
        ·refine Ag f Z cB ?_
         refine Al ?_
         refine Ah ?_
         refine Ab f Z fun a f=>Ai f Z Z As fun a f=>Ad f Z fun a f=>Aa ?_
         obtain rfl:=sj bc
         exact⟨_,Z,_,_,_,Z,_,bU,bV,a9,ba,(gt be (gt bP (gt cb cA))),f.k Z,m,cc,bg⟩
    ·refine Ag f Z bh ?_
     refine Aw Z ?_
     obtain rfl:=sj bc
     obtain rfl:=bd _ rfl
     exact⟨_,_,Z,_,a7,a8,a9,ba,be,f.k Z,m,bf,bg⟩
   ·rintro a w ⟨aV,aW,rfl,aX,aY,aZ,a0,a1,cS,f,m,cT,cU⟩
    have h1:=RSl.mono RB.mono _ _ _ _ cS h1
    have h0_0:=rd2 cS h0_0
    refine Ah ?_
    refine Ab f Z fun a f=>Ai f Z Z As fun a f=>Ad f Z fun a f=>Aa ?_
    obtain rfl:=sj az
    exact⟨_,Z,_,_,_,Z,_,aY,aZ,a0,a1,(gt aB (gt aS cS)),f.k Z,m,cT,cU⟩
  ·refine Ag f Z aE ?_
   refine Aw Z ?_
   have m:=m.front 2 rfl
   have m:=m.eraseAt 2
   have m:=m.eraseAt 1
   obtain rfl:=sj az
   obtain rfl:=aA _ rfl
   exact⟨_,Z,_,aw,ax,aB,f.k Z,m,aD⟩
 ·rintro a w ⟨aj,rfl,ak,al,am,cV,f,m,cW⟩
  refine Ac ?_
  refine Ab f Z fun a f=>Ad f Z fun a f=>Aa ?_
  refine Ao ?_
  obtain rfl:=sj hd
  exact⟨[al],⟨f.get _ _ Z,trivial⟩,f.defers,_,[am],cV,m,_,_,Z,Z,cW⟩
theorem Wk.w {W w:World}{G:GH}{H:List Itm}{x0:Int}{x1:Int}(m:Mem W G w (H)){y:Int}(hd:D.w x0 x1=some y):
  Calls Tryz.prog 47 #[(.int .i64 x0),(.int .i64 x1)] w (Res W G H (fun _ Ho v=>Ho=[]∧v=(.int .i64 y))):=by
 refine Aq (args:=[(.int .i64 x0),(.int .i64 x1)]) (N:=10) [.tmp 4] Tryz.func47 Z Z (Nat.le_of_ble_eq_true Z) Z fun a f=> ?_
 unfold D.w at hd
 refine Ac ?_
 refine Ad f Z fun a f=>Aa (Af (Ac ?_))
 refine Ab f Z fun a f=>Ab f Z fun a f=>Ai f Z Z Cr fun a f=>Aa ?_
 rcases Ae hd with⟨aa,hd⟩|⟨aa,hd⟩
 ·refine Ak f Z aa ?_
  refine Ac ?_
  refine Ab f Z fun a f=>Ad f Z fun a f=>Aa ?_
  refine Ao ?_
  obtain rfl:=sj hd
  exact⟨[(.int .i64 x0)],⟨f.get _ _ Z,trivial⟩,f.defers,_,[],gr,m,Z,Z⟩
 ·refine Ag f Z aa ?_
  refine Al ?_
  refine Ac ?_
  refine Ab f Z fun a f=>Ad f Z fun a f=>Aa ?_
  refine Ao ?_
  obtain rfl:=sj hd
  exact⟨[(.int .i64 x1)],⟨f.get _ _ Z,trivial⟩,f.defers,_,[],gr,m,Z,Z⟩
theorem Wk.X {W:World}(n:Nat):∀{w:World} {G:GH} {H:List Itm} {v0_0:Value} {v1:Value} {it1:Itm} {v2:Value} {it2:Itm} {x0_0:(List (List Int))} {x1:(List Bool)} {x2:(List Int)} (m:Mem W G w (it1::it2::H)) (h0_0:RSl (RSl (RI .i64)) G v0_0 x0_0) (o1:Ow RB 4 G it1 v1 x1) (o2:Ow (RI .i64) 2 G it2 v2 x2) {y:Int×((List Bool))×((List Int))} (hd:D.X n x0_0 x1 x2=some y),
  Calls Tryz.prog 43 #[(.agg #[v0_0]),v1,v2] w (Res W G H (fun G' Ho v=>∃i0:Itm,∃i1:Itm,Ho=[i0,i1]∧v=(.int .i64 y.1)∧Ow RB 4 G' i0 v1 y.2.1∧Ow (RI .i64) 2 G' i1 v2 y.2.2)):=by
 induction n with
 |zero=>intros;rename_i hd;simp[D.X] at hd
 |succ fuel ih=>
  intro w G H v0_0 v1 it1 v2 it2 x0_0 x1 x2 m h0_0 o1 o2 y hd
  refine Aq (args:=[(.agg #[v0_0]),v1,v2]) (N:=66) [.tmp 6] Tryz.func43 Z Z (Nat.le_of_ble_eq_true Z) Z fun a f=> ?_
  unfold D.X at hd
  refine Ac ?_
  refine Bm (cs:=[v0_0]) m f Z Z Z fun aa w a m f=>Ad f Z fun a f=>Aa (Ac ?_)
  refine Ab f Z fun a f=> ?_
  obtain⟨ab,ac,hd⟩:=bind_some hd
  refine AK f Z Tryz.call83 (Ow.lendCall RB.mono 1 o1 m Z (fun ad ae m af=>Wk.w0 m af ac) (fun _ _ _ _ h=>h)) fun ag ah ai w aj m ak a f=> ?_
  obtain⟨rfl,rfl⟩:=ak
  have h0_0:=rd2 aj h0_0
  have o1:=Ow.mono RB.mono aj o1
  have o2:=od1 aj o2
  refine Ad f Z fun a f=>Aa (Af (Ac ?_))
  refine Ab f Z fun a f=>Ab f Z fun a f=> ?_
  obtain⟨al,am,hd⟩:=bind_some hd
  refine AV 2 m o2 Z T31 f Z Z Z am fun an a ao f=>Bt 2 m o2 Z Pl2 f Z Z ao am fun ap a aq f=> ?_
  subst aq
  refine Ai f Z Z Cz fun a f=>Aa ?_
  rcases Ae hd with⟨ar,hd⟩|⟨ar,hd⟩
  ·refine Ak f Z ar ?_
   refine Ac ?_
   refine Ab f Z fun a f=>Ab f Z fun a f=> ?_
   obtain⟨au,av,hd⟩:=bind_some hd
   refine AV 2 m o2 Z T31 f Z Z Z av fun aw a ax f=>Bt 2 m o2 Z Pl2 f Z Z ax av fun ay a az f=> ?_
   subst az
   refine Ad f Z fun a f=>Aa ?_
   refine Ao ?_
   have m:=m.front 2 rfl
   have m:=m.front 2 rfl
   have m:=m.eraseAt 2
   obtain rfl:=sj hd
   exact⟨[(.int .i64 au)],⟨f.get _ _ Z,trivial⟩,f.defers,_,[it1,it2],aj,m,_,_,Z,Z,o1,o2⟩
  ·refine Ag f Z ar ?_
   refine Al ?_
   refine Ac ?_
   refine Ad f Z fun a f=>Aa (Af (Ac ?_))
   refine Ad f Z fun a f=>Aa ?_
   obtain⟨aA,aB,hd⟩:=bind_some hd
   refine AF (fun a w=>∃aC:List Int,∃aD:List Bool,∃aE:Int,(aC,aD,aE)=aA∧∃(aF:GH) (aG:Itm) (aH:Itm),GLe ah aF∧Fr a 66 [(2,v2),(7,(.int .i64 ab)),(8,(.int .i64 aE))]∧Mem W aF w (aG::aH::H)∧Ow (RI .i64) 2 aF aG v2 aC∧Ow RB 4 aF aH v1 aD) ?_ ?_
   ·refine Aj ?_
    have m:=m.front 2 rfl
    have m:=m.front 1 rfl
    refine AC (fun aI a w=>∃aJ:List Int,∃aK:List Bool,∃aL:Int,∃aM:Int,(aJ,aK,aL,aM)=aI∧∃(aN:GH) (aO:Itm) (aP:Itm),GLe ah aN∧Fr a 66 [(1,v1),(2,v2),(3,(.pointer (some ⟨aa,0,none⟩))),(7,(.int .i64 ab)),(8,(.int .i64 aL)),(9,(.int .i64 aM))]∧Mem W aN w (Itm.box aa 29 [v0_0]::aO::aP::H)∧Ow (RI .i64) 2 aN aO v2 aJ∧Ow RB 4 aN aP v1 aK) aB ⟨_,_,_,_,Z,_,it2,it1,gr,f.k Z,m,o2,o1⟩ ?_
    clear aB f m
    rintro aI aQ aR aS a w ⟨aJ,aK,aL,aM,rfl,aN,aO,aP,aT,f,m,aU,aV⟩
    have h0_0:=rd2 aT h0_0
    refine Af (Ac ?_)
    refine Ab f Z fun a f=>AE 0 0 (ds:=[v0_0]) m Bo f Z Z Z Z Z fun a f=> ?_
    obtain⟨aW,aX,aR⟩:=bind_some aR
    refine Bc f Z Tryz.call42 (Wk.a m h0_0 aX) fun aY w aZ m a f=> ?_
    have h0_0:=rd2 aZ h0_0
    have aU:=od1 aZ aU
    have aV:=Ow.mono RB.mono aZ aV
    refine Ai f Z Z AA fun a f=>Aa ?_
    rcases Ae aR with⟨a2,aR⟩|⟨a2,aR⟩
    ·refine Ak f Z a2 ?_
     refine Al ?_
     refine Af (Aj (Af (Ac ?_)))
     refine Ab f Z fun a f=>Ab f Z fun a f=> ?_
     obtain⟨a3,a4,aR⟩:=bind_some aR
     refine AV 2 m aV Z T71 f Z Z Z a4 fun a5 a a6 f=>Bt 2 m aV Z Pl4 f Z Z a6 a4 fun a7 a a8 f=> ?_
     subst a8
     refine Aa ?_
     rcases Ae aR with⟨a9,aR⟩|⟨a9,aR⟩
     ·refine Ak f Z a9 ?_
      refine Aw Z ?_
      refine Ah ?_
      refine Ab f Z fun a f=>Ai f Z Z As fun a f=>Ad f Z fun a f=>Aa ?_
      obtain rfl:=sj aR
      exact⟨_,Z,_,_,_,_,Z,_,aO,aP,(gt aT aZ),f.k Z,m,aU,aV⟩
     ·refine Ag f Z a9 ?_
      refine Al ?_
      refine Ac ?_
      refine AE 0 0 (ds:=[v0_0]) m Bo f Z Z Z Z Z fun a f=>Ab f Z fun a f=>Ab f Z fun a f=> ?_
      obtain⟨ba,bb,aR⟩:=bind_some aR
      refine AK f Z Tryz.call44 (Ow.lendCall RB.mono 2 aV m Z (fun bc bd m be=>Wk.F m (rd2 bd h0_0) be bb) (fun _ G' _ _ ⟨a0,a1,e1,e2,o0⟩=>⟨a0,a1,e1,e2,Ow.free (RI.free _) G' o0⟩)) fun bf bg bh w bi m bj a f=> ?_
      obtain⟨bk,bl,rfl,rfl,bm⟩:=bj
      have h0_0:=rd2 bi h0_0
      have aU:=od1 bi aU
      have aV:=Ow.mono RB.mono bi aV
      refine Bw 0 m bm Z Tryz.underlying31 f Z Z fun a f=>Ad f Z fun a f=>Aa (Ac ?_)
      refine Ab f Z fun a f=>Ab f Z fun a f=> ?_
      obtain⟨bn,bo,aR⟩:=bind_some aR
      refine AV 3 m aV Z T71 f Z Z Z bo fun bp a bq f=>AH 3 m aV Z Tryz.sizeOf4 f Z Z bq bo Z Z Z fun br w m bs=>Aa (Ac ?_)
      refine Ab f Z fun a f=>AE 1 0 (ds:=[v0_0]) m Bo f Z Z Z Z Z fun a f=>Ab f Z fun a f=>Ab f Z fun a f=> ?_
      have m:=m.front 2 rfl
      have m:=m.front 3 rfl
      obtain⟨bt,bu,aR⟩:=bind_some aR
      refine AK f Z Tryz.call43 (ih m h0_0 bs aU bu) fun bv bw bx w bz m bA a f=> ?_
      obtain⟨bB,bC,rfl,rfl,bD,bE⟩:=bA
      have h0_0:=rd2 bz h0_0
      have bm:=od1 bz bm
      obtain⟨bF,bG,aR⟩:=bind_some aR
      refine Bc f Z Tryz.call47 (Wk.w m bG) fun bH w bI m a f=> ?_
      have h0_0:=rd2 bI h0_0
      have bD:=Ow.mono RB.mono bI bD
      have bE:=od1 bI bE
      have bm:=od1 bI bm
      refine Ad f Z fun a f=>Aa (Ac ?_)
      refine Ab f Z fun a f=>Ab f Z fun a f=> ?_
      obtain⟨bJ,bK,aR⟩:=bind_some aR
      refine AV 0 m bD Z T71 f Z Z Z bK fun bL a bM f=>AH 0 m bD Z Tryz.sizeOf4 f Z Z bM bK Z Z Z fun bN w m bO=>Aa (Ac ?_)
      refine Ab f Z fun a f=>Ai f Z Z AA fun a f=>Ab f Z fun a f=> ?_
      refine BA 4 (fun a w=>∃bP,GLe bH bP∧Mem W bP w (bN::bC::bl::Itm.box aa 29 [v0_0]::H)∧Fr a 66 [(1,v1),(2,v2),(3,(.pointer (some ⟨aa,0,none⟩))),(7,(.int .i64 ab)),(8,(.int .i64 aL)),(9,(.int .i64 aM)),(10,(.int .i64 bF)),(49,(.int .i64 aL)),(50,(.bool (decide (aL<0)))),(51,(.bool (decide (aL<0)))),(55,(.bool ((decide (aL<0))||(decide (bF<aL)))))]) ?_ ?_
      ·rcases Bool.eq_false_or_eq_true (decide (aL<0)) with bQ|bQ
       ·refine AB f bQ fun a f=> ?_
        refine AB f bQ fun a f=>AB f bQ fun a f=>l_o f (A3 (f.eval Z) bQ (f.eval Z)) fun a f=> ?_
        exact⟨_,gr,m,f.weak ⟨Z,Z,Z,Z,Z,Z,Z,Z,Z,Z,by rw[bQ];rfl,trivial⟩⟩
       ·refine Az f bQ ?_
        refine Ab f Z fun a f=>Az f bQ ?_
        refine Ab f Z fun a f=>Az f bQ ?_
        refine Ai f Z Z AA fun a f=>l_o f (A2 (f.eval Z) bQ (f.eval Z)) fun a f=> ?_
        exact⟨_,gr,m,f.weak ⟨Z,Z,Z,Z,Z,Z,Z,Z,Z,Z,by rw[bQ];rfl,trivial⟩⟩
      ·rintro a w ⟨bP,bR,m,f⟩
       have bO:=Ow.mono RB.mono bR bO
       have bE:=od1 bR bE
       have bm:=od1 bR bm
       have h0_0:=rd2 bR h0_0
       refine Aa ?_
       rcases Ae aR with⟨bS,aR⟩|⟨bS,aR⟩
       ·refine Ak f Z bS ?_
        refine Ah ?_
        refine Ab f Z fun a f=>Ad f Z fun a f=>Aa (Ah ?_)
        refine Ab f Z fun a f=>Ai f Z Z As fun a f=>Ad f Z fun a f=>Aa ?_
        have m:=m.front 1 rfl
        have m:=m.front 3 rfl
        have m:=m.eraseAt 3
        obtain rfl:=sj aR
        exact⟨_,Z,_,_,_,_,Z,_,bC,bN,(gt aT (gt aZ (gt bi (gt bz (gt bI bR))))),f.k Z,m,bE,bO⟩
       ·refine Ag f Z bS ?_
        refine Al ?_
        refine Ah ?_
        refine Ab f Z fun a f=>Ai f Z Z As fun a f=>Ad f Z fun a f=>Aa ?_
        have m:=m.front 1 rfl
        have m:=m.front 3 rfl
        have m:=m.eraseAt 3
        obtain rfl:=sj aR
        exact⟨_,Z,_,_,_,_,Z,_,bC,bN,(gt aT (gt aZ (gt bi (gt bz (gt bI bR))))),f.k Z,m,bE,bO⟩
    ·refine Ag f Z a2 ?_
     refine Aw Z ?_
     have m:=m.front 2 rfl
     have m:=m.front 2 rfl
     have m:=m.eraseAt 2
     obtain rfl:=sj aR
     obtain rfl:=aS _ rfl
     exact⟨_,_,_,Z,_,aO,aP,(gt aT aZ),f.k Z,m,aU,aV⟩
   ·rintro a w ⟨aC,aD,aE,rfl,aF,aG,aH,bT,f,m,bU,bV⟩
    refine Ac ?_
    refine Ab f Z fun a f=>Ab f Z fun a f=>Ab f Z fun a f=> ?_
    obtain⟨bW,bX,hd⟩:=bind_some hd
    refine Bc f Z Tryz.call47 (Wk.w m bX) fun bY w bZ m a f=> ?_
    have bU:=od1 bZ bU
    have bV:=Ow.mono RB.mono bZ bV
    obtain⟨b0,b1,hd⟩:=bind_some hd
    refine AV 0 m bU Z T31 f Z Z Z b1 fun b2 a b3 f=>AH 0 m bU Z Tryz.sizeOf2 f Z Z b3 b1 Z Z Z fun b4 w m b5=>Aa (Ac ?_)
    refine Ab f Z fun a f=>Ab f Z fun a f=> ?_
    obtain⟨b6,b7,hd⟩:=bind_some hd
    refine AV 0 m b5 Z T31 f Z Z Z b7 fun b8 a b9 f=>Bt 0 m b5 Z Pl2 f Z Z b9 b7 fun ca a cb f=> ?_
    subst cb
    refine Ad f Z fun a f=>Aa ?_
    refine Ao ?_
    have m:=m.front 1 rfl
    obtain rfl:=sj hd
    exact⟨[(.int .i64 b6)],⟨f.get _ _ Z,trivial⟩,f.defers,_,[aH,b4],(gt aj (gt bT bZ)),m,_,_,Z,Z,bV,b5⟩
theorem Wk.m {W w:World}{G:GH}{H:List Itm}{v0_0:Value}{v1:Value}{it1:Itm}{v2:Value}{it2:Itm}{x0_0:(List (List Int))}{x1:(List Bool)}{x2:(List Int)}(m:Mem W G w (it1::it2::H))(h0_0:RSl (RSl (RI .i64)) G v0_0 x0_0)(o1:Ow RB 4 G it1 v1 x1)(o2:Ow (RI .i64) 2 G it2 v2 x2){y:Int×((List Bool))×((List Int))}(hd:D.m x0_0 x1 x2=some y):
  Calls Tryz.prog 43 #[(.agg #[v0_0]),v1,v2] w (Res W G H (fun G' Ho v=>∃i0:Itm,∃i1:Itm,Ho=[i0,i1]∧v=(.int .i64 y.1)∧Ow RB 4 G' i0 v1 y.2.1∧Ow (RI .i64) 2 G' i1 v2 y.2.2)):=by
 exact Wk.X BW m h0_0 o1 o2 hd
theorem Wk.q0 {W w:World}{G:GH}{H:List Itm}{v0_0:Value}{x0_0:(List (List Int))}(m:Mem W G w (H))(h0_0:RSl (RSl (RI .i64)) G v0_0 x0_0){y:((List Int))}(hd:D.q0 x0_0=some y):
  Calls Tryz.prog 14 #[(.agg #[v0_0])] w (Res W G H (fun G' Ho v=>∃r0:Value,∃i0:Itm,Ho=[i0]∧r0=v∧Ow (RI .i64) 2 G' i0 r0 y)):=by
 refine Aq (args:=[(.agg #[v0_0])]) (N:=63) [.tmp 2] Tryz.func14 Z Z (Nat.le_of_ble_eq_true Z) Z fun a f=> ?_
 unfold D.q0 at hd
 refine Ac ?_
 refine Bm (cs:=[v0_0]) m f Z Z Z fun aa w a m f=>Ad f Z fun a f=>Aa (Ac ?_)
 refine A7 (R:=(RI .i64)) (xs:=([]:List Int)) (RI.one _) m T31 f Z Z Z (by decide) (All2.nil _) fun ab ac w a m ad f=>Ad f Z fun a f=>Aa (Af (Ac ?_))
 refine AE 1 0 (ds:=[v0_0]) m Bo f Z Z Z Z Z fun a f=> ?_
 obtain⟨ae,af,hd⟩:=bind_some hd
 refine Bc f Z Tryz.call40 (Wk.c0 m h0_0 af) fun ag w ah m a f=> ?_
 have h0_0:=rd2 ah h0_0
 have ad:=od1 ah ad
 refine l_o f (Bs (f.eval Z)) fun a f=>Aa ?_
 rcases Ae hd with⟨ai,hd⟩|⟨ai,hd⟩
 ·refine Ak f Z ai ?_
  refine Ac ?_
  refine Ab f Z fun a f=>Ad f Z fun a f=>Aa ?_
  refine Ao ?_
  have m:=m.eraseAt 1
  obtain rfl:=sj hd
  exact⟨[ac],⟨f.get _ _ Z,trivial⟩,f.defers,_,[ab],ah,m,_,_,Z,Z,ad⟩
 ·refine Ag f Z ai ?_
  refine Al ?_
  refine Ac ?_
  refine AE 1 0 (ds:=[v0_0]) m Bo f Z Z Z Z Z fun a f=> ?_
  obtain⟨aj,ak,hd⟩:=bind_some hd
  refine AK f Z Tryz.call41 (Wk.L0 m h0_0 ak) fun al am an w ao m ap a f=> ?_
  obtain⟨aq,ar,rfl,rfl,au⟩:=ap
  have h0_0:=rd2 ao h0_0
  have ad:=od1 ao ad
  refine Ad f Z fun a f=>Aa (Ac ?_)
  refine AE 2 0 (ds:=[v0_0]) m Bo f Z Z Z Z Z fun a f=> ?_
  obtain⟨av,aw,hd⟩:=bind_some hd
  refine Bc f Z Tryz.call42 (Wk.a m h0_0 aw) fun ax w ay m a f=> ?_
  have h0_0:=rd2 ay h0_0
  have au:=od1 ay au
  have ad:=od1 ay ad
  obtain⟨az,aA,hd⟩:=bind_some hd
  refine CU (R:=RB) m T71 Z (by decide) Z f Z Z Z aA fun aB aC w a m aD f=>Ad f Z fun a f=>Aa (Ac ?_)
  refine AE 3 0 (ds:=[v0_0]) m Bo f Z Z Z Z Z fun a f=>Ab f Z fun a f=>Ab f Z fun a f=> ?_
  obtain⟨aE,aF,hd⟩:=bind_some hd
  refine AK f Z Tryz.call43 (Wk.m m h0_0 aD au aF) fun aG aH aI w aJ m aK a f=> ?_
  obtain⟨aL,aM,rfl,rfl,aN,aO⟩:=aK
  have h0_0:=rd2 aJ h0_0
  have ad:=od1 aJ ad
  refine Ad f Z fun a f=>Aa (Af ?_)
  obtain⟨aP,aQ,hd⟩:=bind_some hd
  refine AF (fun a w=>∃aR:List Int,aR=aP∧∃(aS:GH) (aT:Value) (aU:Itm),GLe aH aS∧Fr a 63 [(3,aT)]∧Mem W aS w (aU::H)∧Ow (RI .i64) 2 aS aU aT aR) ?_ ?_
  ·refine Aj ?_
   have m:=m.front 1 rfl
   have m:=m.front 2 rfl
   have m:=m.front 3 rfl
   refine AC (fun aV a w=>∃aW:List Int,∃aX:List Int,∃aY:List Bool,(aW,aX,aY)=aV∧∃(aZ:GH) (a2:Value) (a3:Itm) (a4:Itm) (a5:Itm),GLe aH aZ∧Fr a 63 [(1,(.pointer (some ⟨aa,0,none⟩))),(3,a2),(4,aq),(5,aC),(6,(.int .i64 aE.1))]∧Mem W aZ w (Itm.box aa 29 [v0_0]::a3::a4::a5::H)∧Ow (RI .i64) 2 aZ a3 a2 aW∧Ow (RI .i64) 2 aZ a4 aq aX∧Ow RB 4 aZ a5 aC aY) aQ ⟨_,_,_,Z,_,ac,ab,aM,aL,gr,f.k Z,m,ad,aO,aN⟩ ?_
   clear aQ f m
   rintro aV a6 a7 a8 a w ⟨aW,aX,aY,rfl,aZ,a2,a3,a4,a5,a9,f,m,ba,bb,bc⟩
   have h0_0:=rd2 a9 h0_0
   refine Af (Ac ?_)
   refine Ab f Z fun a f=>Bw 1 m ba Z Tryz.underlying31 f Z Z fun a f=>AE 0 0 (ds:=[v0_0]) m Bo f Z Z Z Z Z fun a f=> ?_
   obtain⟨bd,be,a7⟩:=bind_some a7
   refine Bc f Z Tryz.call42 (Wk.a m h0_0 be) fun bf w bg m a f=> ?_
   have h0_0:=rd2 bg h0_0
   have ba:=od1 bg ba
   have bb:=od1 bg bb
   have bc:=Ow.mono RB.mono bg bc
   refine Ai f Z Z AA fun a f=>Aa ?_
   rcases Ae a7 with⟨bh,a7⟩|⟨bh,a7⟩
   ·refine Ak f Z bh ?_
    refine Al ?_
    refine Aj (Ac ?_)
    refine Ad f Z fun a f=>Aa ?_
    obtain⟨bi,bj,a7⟩:=bind_some a7
    refine AF (fun a w=>∃bk:List Int,∃bl:List Int,∃bm:List Bool,(bk,bl,bm)=bi∧∃(bn:GH) (bo:Value) (bp:Itm) (bq:Itm) (br:Itm),GLe bf bn∧Fr a 63 [(1,(.pointer (some ⟨aa,0,none⟩))),(3,bo),(4,aq),(5,aC),(6,(.int .i64 aE.1))]∧Mem W bn w (Itm.box aa 29 [v0_0]::bp::bq::br::H)∧Ow (RI .i64) 2 bn bp bo bk∧Ow (RI .i64) 2 bn bq aq bl∧Ow RB 4 bn br aC bm) ?_ ?_
    ·refine Aj ?_
     refine AC (fun bs a w=>∃bt:List Int,∃bu:List Bool,∃bv:Int,(bt,bu,bv)=bs∧∃(bw:GH) (bx:Itm) (bz:Itm),GLe bf bw∧Fr a 63 [(1,(.pointer (some ⟨aa,0,none⟩))),(3,a2),(4,aq),(5,aC),(6,(.int .i64 aE.1)),(7,(.int .i64 bv))]∧Mem W bw w (Itm.box aa 29 [v0_0]::a3::bx::bz::H)∧Ow (RI .i64) 2 bw bx aq bt∧Ow RB 4 bw bz aC bu) bj ⟨_,_,_,Z,_,a4,a5,gr,f.k Z,m,bb,bc⟩ ?_
     clear bj f m
     rintro bs bA bB bC a w ⟨bt,bu,bv,rfl,bw,bx,bz,bD,f,m,bE,bF⟩
     have h0_0:=rd2 bD h0_0
     have ba:=od1 bD ba
     refine Af (Ac ?_)
     refine Ab f Z fun a f=>AE 0 0 (ds:=[v0_0]) m Bo f Z Z Z Z Z fun a f=> ?_
     obtain⟨bG,bH,bB⟩:=bind_some bB
     refine Bc f Z Tryz.call42 (Wk.a m h0_0 bH) fun bI w bJ m a f=> ?_
     have h0_0:=rd2 bJ h0_0
     have ba:=od1 bJ ba
     have bE:=od1 bJ bE
     have bF:=Ow.mono RB.mono bJ bF
     refine Ai f Z Z AA fun a f=>Aa ?_
     rcases Ae bB with⟨bK,bB⟩|⟨bK,bB⟩
     ·refine Ak f Z bK ?_
      refine Al ?_
      refine Af (Aj (Af (Ac ?_)))
      refine Ab f Z fun a f=>Ab f Z fun a f=> ?_
      obtain⟨bL,bM,bB⟩:=bind_some bB
      refine AV 3 m bF Z T71 f Z Z Z bM fun bN a bO f=>Bt 3 m bF Z Pl4 f Z Z bO bM fun bP a bQ f=> ?_
      subst bQ
      refine Ab f Z fun a f=> ?_
      obtain⟨bR,bS,bB⟩:=bind_some bB
      refine BA 8 (fun a w=>∃bT,GLe bI bT∧Mem W bT w (Itm.box aa 29 [v0_0]::a3::bx::bz::H)∧Fr a 63 [(1,(.pointer (some ⟨aa,0,none⟩))),(3,a2),(4,aq),(5,aC),(6,(.int .i64 aE.1)),(7,(.int .i64 bv)),(30,(.bool (decide (bv<bG)))),(33,aC),(34,(.int .i64 bv)),(35,bN),(36,(.bool bL)),(37,(.bool bL)),(45,(.bool bR))]) ?_ ?_
      ·rcases Ae bS with⟨bU,bS⟩|⟨bU,bS⟩
       ·refine AB f bU fun a f=> ?_
        refine AB f bU fun a f=>AB f bU fun a f=>AB f bU fun a f=>AB f bU fun a f=>AB f bU fun a f=>AB f bU fun a f=>l_o f (A3 (f.eval Z) bU (f.eval Z)) fun a f=> ?_
        obtain rfl:=sj bS
        exact⟨_,gr,m,f.k Z⟩
       ·refine Az f bU ?_
        refine AE 0 0 (ds:=[v0_0]) m Bo f Z Z Z Z Z fun a f=>Az f bU ?_
        refine Ab f Z fun a f=>Az f bU ?_
        refine Ab f Z fun a f=>Az f bU ?_
        obtain⟨bV,bW,bS⟩:=bind_some bS
        refine AK f Z Tryz.call44 (Ow.lendCall RB.mono 3 bF m Z (fun bX bY m bZ=>Wk.F m (rd2 bY h0_0) bZ bW) (fun _ G' _ _ ⟨a0,a1,e1,e2,o0⟩=>⟨a0,a1,e1,e2,Ow.free (RI.free _) G' o0⟩)) fun b0 b1 b2 w b3 m b4 a f=> ?_
        obtain⟨b5,b6,rfl,rfl,b7⟩:=b4
        have h0_0:=rd2 b3 h0_0
        have ba:=od1 b3 ba
        have bE:=od1 b3 bE
        have bF:=Ow.mono RB.mono b3 bF
        refine Az f bU ?_
        refine Bw 0 m b7 Z Tryz.underlying31 f Z Z fun a f=>Az f bU ?_
        refine Ab f Z fun a f=>Az f bU ?_
        refine Ai f Z Z Cr fun a f=>l_o f (A2 (f.eval Z) bU (f.eval Z)) fun a f=> ?_
        obtain rfl:=sj bS
        have m:=m.front 4 rfl
        have m:=m.front 4 rfl
        have m:Mem W b1 w (a3::bx::bz::b6::Itm.box aa 29 [v0_0]::H):=m.front 4 rfl
        have m:=m.front 4 rfl
        have m:=m.eraseAt 4
        exact⟨_,b3,m,f.k Z⟩
      ·rintro a w ⟨bT,b8,m,f⟩
       have h0_0:=rd2 b8 h0_0
       have ba:=od1 b8 ba
       have bE:=od1 b8 bE
       have bF:=Ow.mono RB.mono b8 bF
       refine Aa ?_
       rcases Ae bB with⟨b9,bB⟩|⟨b9,bB⟩
       ·refine Ak f Z b9 ?_
        refine Aw Z ?_
        refine Ah ?_
        refine Ab f Z fun a f=>Ai f Z Z As fun a f=>Ad f Z fun a f=>Aa ?_
        obtain rfl:=sj bB
        exact⟨_,Z,_,_,_,Z,_,bx,bz,(gt bD (gt bJ b8)),f.k Z,m,bE,bF⟩
       ·refine Ag f Z b9 ?_
        refine Al ?_
        refine Ac ?_
        refine Ab f Z fun a f=>Ab f Z fun a f=> ?_
        obtain⟨ca,cb,bB⟩:=bind_some bB
        refine AV 3 m bF Z T71 f Z Z Z cb fun cc a cd f=>AH 3 m bF Z Tryz.sizeOf4 f Z Z cd cb Z Z Z fun ce w m cf=>Aa (Af (Ac ?_))
        refine AE 0 0 (ds:=[v0_0]) m Bo f Z Z Z Z Z fun a f=>Ab f Z fun a f=>Ab f Z fun a f=> ?_
        have m:=m.front 2 rfl
        have m:=m.front 3 rfl
        obtain⟨cg,ch,bB⟩:=bind_some bB
        refine AK f Z Tryz.call43 (Wk.m m h0_0 cf bE ch) fun ci cj ck w cl m cm a f=> ?_
        obtain⟨cn,co,rfl,rfl,cp,cq⟩:=cm
        have h0_0:=rd2 cl h0_0
        have ba:=od1 cl ba
        refine Ab f Z fun a f=>Ai f Z Z CK fun a f=>Aa ?_
        rcases Ae bB with⟨cr,bB⟩|⟨cr,bB⟩
        ·refine Ak f Z cr ?_
         refine Ac ?_
         refine Ab f Z fun a f=>Ab f Z fun a f=>A7 (R:=(RI .i64)) (xs:=([bv]:List Int)) (RI.one _) m T31 f Z Z Z (by decide) (All2.cons Z (All2.nil _)) fun ct cu w a m cv f=> ?_
         obtain⟨cw,cx,bB⟩:=bind_some bB
         refine Bh (RI.one _) 4 m ba Z T31 Z (by decide) f Z Z Z (Ow.src (j:=0) cv m Z) cx fun cy cz w a m cA f=>Ad f Z fun a f=>Aa ?_
         refine Aw Z ?_
         have m:=m.front 1 rfl
         have m:=m.front 2 rfl
         have m:Mem W cj w (cy::co::cn::ct::Itm.box aa 29 [v0_0]::H):=m.front 4 rfl
         have m:=m.front 4 rfl
         have m:=m.eraseAt 4
         obtain rfl:=sj bB
         obtain rfl:=bC _ rfl
         exact⟨_,_,_,Z,_,cz,cy,co,cn,(gt bD (gt bJ (gt b8 cl))),f.k Z,m,cA,cq,cp⟩
        ·refine Ag f Z cr ?_
         refine Al ?_
         refine Ah ?_
         refine Ab f Z fun a f=>Ab f Z fun a f=> ?_
         obtain⟨cB,cC,bB⟩:=bind_some bB
         refine AV 0 m cp Z T71 f Z Z Z cC fun cD a cE f=>AH 0 m cp Z Tryz.sizeOf4 f Z Z cE cC Z Z Z fun cF w m cG=>Aa (Ah ?_)
         refine Ab f Z fun a f=>Ai f Z Z As fun a f=>Ad f Z fun a f=>Aa ?_
         have m:=m.front 1 rfl
         have m:=m.front 3 rfl
         have m:=m.front 3 rfl
         obtain rfl:=sj bB
         exact⟨_,Z,_,_,_,Z,_,co,cF,(gt bD (gt bJ (gt b8 cl))),f.k Z,m,cq,cG⟩
     ·refine Ag f Z bK ?_
      refine Aw Z ?_
      obtain rfl:=sj bB
      obtain rfl:=bC _ rfl
      exact⟨_,_,_,Z,_,a2,a3,bx,bz,(gt bD bJ),f.k Z,m,ba,bE,bF⟩
    ·rintro a w ⟨bk,bl,bm,rfl,bn,bo,bp,bq,br,cH,f,m,cI,cJ,cK⟩
     have h0_0:=rd2 cH h0_0
     obtain rfl:=sj a7
     exact⟨_,Z,_,_,_,Z,_,bo,bp,bq,br,(gt a9 (gt bg cH)),f.k Z,m,cI,cJ,cK⟩
   ·refine Ag f Z bh ?_
    refine Aw Z ?_
    have m:=m.front 1 rfl
    have m:=m.eraseAt 3
    have m:Mem W bf w (a3::Itm.box aa 29 [v0_0]::H):=m.eraseAt 2
    have m:=m.eraseAt 1
    obtain rfl:=sj a7
    obtain rfl:=a8 _ rfl
    exact⟨_,Z,_,a2,a3,(gt a9 bg),f.k Z,m,ba⟩
  ·rintro a w ⟨aR,rfl,aS,aT,aU,cL,f,m,cM⟩
   refine Ac ?_
   refine Ab f Z fun a f=>Ad f Z fun a f=>Aa ?_
   refine Ao ?_
   obtain rfl:=sj hd
   exact⟨[aT],⟨f.get _ _ Z,trivial⟩,f.defers,_,[aU],(gt ah (gt ao (gt ay (gt aJ cL)))),m,_,_,Z,Z,cM⟩
theorem Wk.f1 {W w:World}{G:GH}{H:List Itm}{v0_0:Value}{x0_0:(List (List Int))}{x1:Int}(m:Mem W G w (H))(h0_0:RSl (RSl (RI .i64)) G v0_0 x0_0){y:Bool}(hd:D.f1 x0_0 x1=some y):
  Calls Tryz.prog 115 #[(.agg #[v0_0]),(.int .i64 x1)] w (Res W G H (fun _ Ho v=>Ho=[]∧v=(.bool y))):=by
 refine Aq (args:=[(.agg #[v0_0]),(.int .i64 x1)]) (N:=10) [.tmp 4] Tryz.func115 Z Z (Nat.le_of_ble_eq_true Z) Z fun a f=> ?_
 unfold D.f1 at hd
 refine Ac ?_
 refine Bm (cs:=[v0_0]) m f Z Z Z fun aa w a m f=>Ad f Z fun a f=>Aa (Ac ?_)
 refine Ab f Z fun a f=>AE 0 0 (ds:=[v0_0]) m Bo f Z Z Z Z Z fun a f=> ?_
 obtain⟨ab,ac,hd⟩:=bind_some hd
 refine Bc f Z Tryz.call42 (Wk.a m h0_0 ac) fun ad w ae m a f=> ?_
 have h0_0:=rd2 ae h0_0
 refine Ai f Z Z A8 fun a f=> ?_
 obtain⟨af,ag,hd⟩:=bind_some hd
 refine Bc f Z Tryz.call66 (Wk.c m ag) fun ah w ai m a f=> ?_
 have h0_0:=rd2 ai h0_0
 refine Ad f Z fun a f=>Aa ?_
 refine Ao ?_
 have m:Mem W ah w H:=Mem.drop (H':=[Itm.box aa 29 [v0_0]]) m
 obtain rfl:=sj hd
 exact⟨[(.bool af)],⟨f.get _ _ Z,trivial⟩,f.defers,_,[],(gt ae ai),m,Z,Z⟩
end Go.Proofs.YtkffjeaefgfnnaaGreatDoor

set_option maxRecDepth 100000
namespace Go.Proofs.YtkffjeaefgfnnaaGreatDoor
open Go Go.Sx
theorem BG :Agg Tryz.prog 36 2:=⟨Tryz.isAgg36,Tryz.sizeOf36⟩
theorem Wk.p1 {W w:World}{G:GH}{H:List Itm}{v0_0:Value}{v1:Value}{x0_0:(List (List Int))}{x1:(List Int)}(m:Mem W G w (H))(h0_0:RSl (RSl (RI .i64)) G v0_0 x0_0)(h1:RSl (RI .i64) G v1 x1){y:Bool}(hd:D.p1 x0_0 x1=some y):
  Calls Tryz.prog 86 #[(.agg #[v0_0]),v1] w (Res W G H (fun _ Ho v=>Ho=[]∧v=(.bool y))):=by
 refine Aq (args:=[(.agg #[v0_0]),v1]) (N:=34) [.tmp 4] Tryz.func86 Z Z (Nat.le_of_ble_eq_true Z) Z fun a f=> ?_
 unfold D.p1 at hd
 refine Ac ?_
 refine Bm (cs:=[v0_0]) m f Z Z Z fun aa w a m f=>Ad f Z fun a f=>Aa (Af (Ac ?_))
 refine Ab f Z fun a f=>AT Tryz.underlying31 f Z Z h1 fun a f=>AE 0 0 (ds:=[v0_0]) m Bo f Z Z Z Z Z fun a f=> ?_
 obtain⟨ab,ac,hd⟩:=bind_some hd
 refine Bc f Z Tryz.call42 (Wk.a m h0_0 ac) fun ad w ae m a f=> ?_
 have h0_0:=rd2 ae h0_0
 have h1:=rd1 ae h1
 refine Ai f Z Z Cs fun a f=>Aa ?_
 rcases Ae hd with⟨af,hd⟩|⟨af,hd⟩
 ·refine Ak f Z af ?_
  refine Ac ?_
  refine Ad f Z fun a f=>Aa ?_
  refine Ao ?_
  have m:Mem W ad w H:=Mem.drop (H':=[Itm.box aa 29 [v0_0]]) m
  obtain rfl:=sj hd
  exact⟨[(.bool false)],⟨f.get _ _ Z,trivial⟩,f.defers,_,[],ae,m,Z,Z⟩
 ·refine Ag f Z af ?_
  refine Al ?_
  refine Af (Ac ?_)
  refine Ad f Z fun a f=>Aa ?_
  obtain⟨ag,ah,hd⟩:=bind_some hd
  refine AF (fun a w=>∃q_99':Unit,ag= .inl q_99'∧∃(ai:GH),GLe ad ai∧Fr a 34 []∧Mem W ai w (H)) ?_ ?_
  ·refine Aj ?_
   refine AC (fun aj a w=>∃ak:Int,ak=aj∧∃(al:GH),GLe ad al∧Fr a 34 [(1,v1),(2,(.pointer (some ⟨aa,0,none⟩))),(5,(.int .i64 ak))]∧Mem W al w (Itm.box aa 29 [v0_0]::H)) ah ⟨_,Z,_,gr,f.k Z,m⟩ ?_
   clear ah f m
   rintro aj am an ao a w ⟨ak,rfl,al,ap,f,m⟩
   have h1:=rd1 ap h1
   have h0_0:=rd2 ap h0_0
   refine Af (Ac ?_)
   refine Ab f Z fun a f=>Ab f Z fun a f=>AT Tryz.underlying31 f Z Z h1 fun a f=>Ai f Z Z AA fun a f=>Aa ?_
   rcases Ae an with⟨aq,an⟩|⟨aq,an⟩
   ·refine Ak f Z aq ?_
    refine Al ?_
    refine Af (Aj (Af ?_))
    refine AY 17 AI (by kernel_rfl) m ?_
    refine B6 (i:=0) (ds:=[v0_0]) 17 0 Bo Z Z Z Z (by kernel_rfl) Z f Z Z Z fun a f=>Am 1 17 Z f Z fun a f=>Am 2 17 Z f Z fun a f=> ?_
    obtain⟨ar,au,an⟩:=bind_some an
    refine BF 3 17 T31 h1 au Z f Z Z fun av aw a ax ay f=> ?_
    subst ay
    refine BE 4 17 Pl2 ax Z f Z fun a f=> ?_
    obtain⟨az,aA,an⟩:=bind_some an
    refine Ca (i:=5) 17 Z (by kernel_rfl) Z f Z Z Z Tryz.call115 (fun _ _ w aB m=>Wk.f1 m (rd2 aB h0_0) aA) fun a f=>q_p 6 17 Z f (fun _=>Bs (f.eval Z)) fun a f=>Am 7 17 Z f Z fun a f=> ?_
    obtain⟨aC,aD,an⟩:=bind_some an
    refine CY (fuel':=0) (listed':= #[true,true,true,true,true,true,true,true,true,true,true,true,true,true,true,true,true]) (fun a=>Fr a 34 [(1,v1),(2,(.pointer (some ⟨aa,0,none⟩))),(5,(.int .i64 ak)),(14,(.bool (decide (ak<(x1.length:Int))))),(17,(.agg #[v0_0])),(18,v1),(19,(.int .i64 ak)),(20,av),(21,(.int .i64 ar)),(22,(.bool az)),(23,(.bool (!az))),(24,(.bool (!az))),(33,(.bool aC))]) ?_ ?_
    ·intro a f
     refine AU fun aE w aF m=> ?_
     have h1:=rd1 aF h1
     have h0_0:=rd2 aF h0_0
     have ax:=At.mono aF ax
     refine Aa ?_
     rcases Ae an with⟨aG,an⟩|⟨aG,an⟩
     ·refine Ak f Z aG ?_
      refine Ac ?_
      refine Ad f Z fun a f=>Aa ?_
      refine Ao ?_
      have m:Mem W aE w H:=Mem.drop (H':=[Itm.box aa 29 [v0_0]]) m
      obtain rfl:=sj an
      obtain rfl:=ao _ rfl
      obtain rfl:=sj hd
      exact⟨[(.bool false)],⟨f.get _ _ Z,trivial⟩,f.defers,_,[],(gt ae (gt ap aF)),m,Z,Z⟩
     ·refine Ag f Z aG ?_
      refine Al ?_
      refine Ah ?_
      refine Ab f Z fun a f=>Ai f Z Z As fun a f=>Ad f Z fun a f=>Aa ?_
      obtain rfl:=sj an
      exact⟨_,Z,_,Z,_,(gt ap aF),f.k Z,m⟩
    ·intro aH
     rcases Ae aD with⟨aI,aD⟩|⟨aI,aD⟩
     ·refine Ax 8 17 Z f aI fun a f=> ?_
      refine Ax 9 17 Z f aI fun a f=>Ax 10 17 Z f aI fun a f=>Ax 11 17 Z f aI fun a f=>Ax 12 17 Z f aI fun a f=>Ax 13 17 Z f aI fun a f=>Ax 14 17 Z f aI fun a f=>Ax 15 17 Z f aI fun a f=>q_p 16 17 Z f (fun _=>A3 (f.eval Z) aI (f.eval Z)) fun a f=> ?_
      obtain rfl:=sj aD
      exact aH _ (f.k Z)
     ·refine Am (hw:=wo f aI) 8 17 Z f Z fun a f=> ?_
      refine Am (hw:=wo f aI) 9 17 Z f Z fun a f=> ?_
      obtain⟨aJ,aK,aD⟩:=bind_some aD
      refine q_slice (i:=10) 17 T31 h1 aK Z (by kernel_rfl) Z f (Bz f Z Z Z aI) Z Z (.inl ⟨Z,Z⟩) (.inr ⟨_,_,Z,Z⟩) fun aL a aM f=>Am (hw:=wo f aI) 11 17 Z f Z fun a f=>Am (hw:=wo f aI) 12 17 Z f Z fun a f=> ?_
      obtain⟨aN,aO,aD⟩:=bind_some aD
      refine BF (hw:=wo f aI) 13 17 T31 h1 aO Z f Z Z fun aP aQ a aR aS f=> ?_
      subst aS
      refine BE (hw:=wo f aI) 14 17 Pl2 aR Z f Z fun a f=> ?_
      obtain⟨aT,aU,aD⟩:=bind_some aD
      refine Ca (i:=15) 17 Z (by kernel_rfl) Z f (Bz f Z Z Z aI) Z Z Tryz.call84 (fun _ _ w aV m=>Wk.f m (rd1 aV aM) aU) fun a f=>q_p 16 17 Z f (fun _=>A2 (f.eval Z) aI (f.eval Z)) fun a f=> ?_
      obtain rfl:=sj aD
      exact aH _ (f.k Z)
   ·refine Ag f Z aq ?_
    refine Aw Z ?_
    have m:Mem W al w H:=Mem.drop (H':=[Itm.box aa 29 [v0_0]]) m
    obtain rfl:=sj an
    obtain rfl:=ao _ rfl
    exact⟨_,Z,_,ap,f.weak trivial,m⟩
  ·rintro a w ⟨_,rfl,ai,aW,f,m⟩
   refine Ac ?_
   refine Ad f Z fun a f=>Aa ?_
   refine Ao ?_
   obtain rfl:=sj hd
   exact⟨[(.bool true)],⟨f.get _ _ Z,trivial⟩,f.defers,_,[],(gt ae aW),m,Z,Z⟩
theorem Wk.r0 {W w:World}{G:GH}{H:List Itm}{v0_0:Value}{v1:Value}{x0_0:(List (List Int))}{x1:(List Int)}(m:Mem W G w (H))(h0_0:RSl (RSl (RI .i64)) G v0_0 x0_0)(h1:RSl (RI .i64) G v1 x1){y:Bool}(hd:D.r0 x0_0 x1=some y):
  Calls Tryz.prog 45 #[(.agg #[v0_0]),v1] w (Res W G H (fun _ Ho v=>Ho=[]∧v=(.bool y))):=by
 refine Aq (args:=[(.agg #[v0_0]),v1]) (N:=12) [.tmp 4] Tryz.func45 Z Z (Nat.le_of_ble_eq_true Z) Z fun a f=> ?_
 unfold D.r0 at hd
 refine Ac ?_
 refine Bm (cs:=[v0_0]) m f Z Z Z fun aa w a m f=>Ad f Z fun a f=>Aa (Ac ?_)
 refine AE 0 0 (ds:=[v0_0]) m Bo f Z Z Z Z Z fun a f=> ?_
 obtain⟨ab,ac,hd⟩:=bind_some hd
 refine Bc f Z Tryz.call48 (Wk.G m h0_0 ac) fun ad w ae m a f=> ?_
 have h0_0:=rd2 ae h0_0
 have h1:=rd1 ae h1
 refine Ab f Z fun a f=> ?_
 obtain⟨af,ag,hd⟩:=bind_some hd
 refine BA 4 (fun a w=>∃ah,GLe ad ah∧Mem W ah w (Itm.box aa 29 [v0_0]::H)∧Fr a 12 [(0,(.agg #[v0_0])),(1,v1),(2,(.pointer (some ⟨aa,0,none⟩))),(5,(.agg #[v0_0])),(6,(.bool ab)),(7,(.bool ab)),(11,(.bool af))]) ?_ ?_
 ·rcases Ae ag with⟨ai,ag⟩|⟨ai,ag⟩
  ·refine Az f ai ?_
   refine AE 0 0 (ds:=[v0_0]) m Bo f Z Z Z Z Z fun a f=>Az f ai ?_
   refine Ab f Z fun a f=>Az f ai ?_
   obtain⟨aj,ak,ag⟩:=bind_some ag
   refine Bc f Z Tryz.call86 (Wk.p1 m h0_0 h1 ak) fun al w am m a f=> ?_
   have h0_0:=rd2 am h0_0
   have h1:=rd1 am h1
   refine l_o f (A3 (f.eval Z) ai (f.eval Z)) fun a f=> ?_
   obtain rfl:=sj ag
   exact⟨_,am,m,f.k Z⟩
  ·refine AB f ai fun a f=> ?_
   refine AB f ai fun a f=>AB f ai fun a f=>l_o f (A2 (f.eval Z) ai (f.eval Z)) fun a f=> ?_
   obtain rfl:=sj ag
   exact⟨_,gr,m,f.k Z⟩
 ·rintro a w ⟨ah,an,m,f⟩
  have h0_0:=rd2 an h0_0
  have h1:=rd1 an h1
  refine Ad f Z fun a f=>Aa ?_
  refine Ao ?_
  have m:Mem W ah w H:=Mem.drop (H':=[Itm.box aa 29 [v0_0]]) m
  obtain rfl:=sj hd
  exact⟨[(.bool af)],⟨f.get _ _ Z,trivial⟩,f.defers,_,[],(gt ae an),m,Z,Z⟩
theorem Wk.O0 {W w:World}{G:GH}{H:List Itm}{v0_0:Value}{x0_0:(List (List Int))}(m:Mem W G w (H))(h0_0:RSl (RSl (RI .i64)) G v0_0 x0_0){y:((List (List Int)))}(hd:D.O0 x0_0=some y):
  Calls Tryz.prog 116 #[(.agg #[v0_0])] w (Res W G H (fun G' Ho v=>∃r0:Value,∃i0:Itm,Ho=[i0]∧v=(.agg #[r0])∧Ow (RSl (RI .i64)) 31 G' i0 r0 y)):=by
 refine Aq (args:=[(.agg #[v0_0])]) (N:=25) [.cell 2 29] Tryz.func116 Z Z (Nat.le_of_ble_eq_true Z) Z fun a f=> ?_
 unfold D.O0 at hd
 refine Ac ?_
 refine Bm (cs:=[v0_0]) m f Z Z Z fun aa w a m f=>Bp (cs:=[(.slice none 0 0)]) Tryz.zeroValue29 m f Z Z fun ab w a m f=>Aa (Ac ?_)
 have ac:∀w,(Instr.build 29 #[]).run Tryz.prog w= .ok (.agg #[(.slice none 0 0)]) w:=by intro w;simp[Instr.build,Instr.fill,Ct,Cg,B3,B5,BQ,Ch]
 refine CL f Z Z ac fun a f=>Bp (cs:=[(.slice none 0 0)]) Tryz.zeroValue29 m f Z Z fun ad w a m f=>AG 0 0 (ds:=[(.slice none 0 0)]) m Tryz.sizeOf29 f Z Z Z (Av Z AS) Z (Nat.le_of_ble_eq_true Z) Z fun w m=>Aa (Af (Ac ?_))
 refine Ad f Z fun a f=>Aa ?_
 obtain⟨ae,m,af⟩:=Ow.nil (RSl (RI .i64)) 31 m
 obtain⟨ag,ah,hd⟩:=bind_some hd
 refine AF (fun a w=>∃ai:List (List Int),ai=ag∧∃(aj:GH) (ak:Value) (al:Itm),GLe G aj∧Fr a 25 [(2,(.pointer (some ⟨ab,0,none⟩))),(3,(.pointer (some ⟨ad,0,none⟩)))]∧Mem W aj w (Itm.box ab 29 [(.slice none 0 0)]::Itm.box ad 29 [ak]::al::H)∧Ow (RSl (RI .i64)) 31 aj al ak ai) ?_ ?_
 ·refine Aj ?_
  have m:=m.front 1 rfl
  have m:=m.front 2 rfl
  have m:Mem W G w (Itm.box aa 29 [v0_0]::Itm.box ab 29 [(.slice none 0 0)]::Itm.box ad 29 [(.slice none 0 0)]::ae::H):=m.front 3 rfl
  refine AC (fun am a w=>∃an:Int,∃ao:List (List Int),(an,ao)=am∧∃(ap:GH) (aq:Value) (ar:Itm),GLe G ap∧Fr a 25 [(1,(.pointer (some ⟨aa,0,none⟩))),(2,(.pointer (some ⟨ab,0,none⟩))),(3,(.pointer (some ⟨ad,0,none⟩))),(4,(.int .i64 an))]∧Mem W ap w (Itm.box aa 29 [v0_0]::Itm.box ab 29 [(.slice none 0 0)]::Itm.box ad 29 [aq]::ar::H)∧Ow (RSl (RI .i64)) 31 ap ar aq ao) ah ⟨_,_,Z,_,(.slice none 0 0),ae,gr,f.k Z,m,af⟩ ?_
  clear ah f m
  rintro am au av aw a w ⟨an,ao,rfl,ap,aq,ar,ax,f,m,ay⟩
  have h0_0:=rd2 ax h0_0
  refine Af (Ac ?_)
  refine Ab f Z fun a f=>Bk Tryz.underlying29 Z Tryz.sizeOf27 f Z fun a f=>Ay 0 0 m AX f Z Z Z Z fun a f=>AT Tryz.underlying27 f Z Z h0_0 fun a f=>Ai f Z Z AA fun a f=>Aa ?_
  rcases Ae av with⟨az,av⟩|⟨az,av⟩
  ·refine Ak f Z az ?_
   refine Al ?_
   refine Af (Aj ?_)
   refine AY 9 AI (by kernel_rfl) m ?_
   refine BT 0 9 Tryz.underlying29 Z Tryz.sizeOf27 Z f Z fun a f=>BD 1 9 2 AX Z Z Z f Z fun a f=>BT 2 9 Tryz.underlying29 Z Tryz.sizeOf27 Z f Z fun a f=>BD 3 9 0 AX Z Z Z f Z fun a f=>Am 4 9 Z f Z fun a f=> ?_
   obtain⟨aA,aB,av⟩:=bind_some av
   refine BF 5 9 T27 h0_0 aB Z f Z Z fun aC aD a aE aF f=>BE 6 9 AO aE Z f Z fun a f=>Br (i:=7) Z (by kernel_rfl) Z fun aG w aH m aI aI=> ?_
   have h0_0:=rd2 aH h0_0
   have aE:=At.mono aH aE
   have aF:=rd1 aH aF
   have ay:=Ow.mono (RSl.mono (RI.mono _)) aH ay
   obtain⟨aJ,aK,av⟩:=bind_some av
   refine AK f Z Tryz.call95 (Wk.e m aF aK) fun aL aM aN w aO m aP a f=> ?_
   obtain⟨aQ,aR,rfl,rfl,aS⟩:=aP
   have h0_0:=rd2 aO h0_0
   have aE:=At.mono aO aE
   have aF:=rd1 aO aF
   have ay:=Ow.mono (RSl.mono (RI.mono _)) aO ay
   refine Aa ?_
   refine aI aM [aR] _ _ aO m ?_
   refine Br (i:=8) Z (by kernel_rfl) Z fun aT w aU m aV aV=> ?_
   have h0_0:=rd2 aU h0_0
   have aE:=At.mono aU aE
   have aF:=rd1 aU aF
   have aS:=od1 aU aS
   have ay:=Ow.mono (RSl.mono (RI.mono _)) aU ay
   obtain⟨aW,aX,m,aY⟩:=Ow.stamp (RI.mono _) aS m
   have h0_0:=rd2 aX h0_0
   have aE:=At.mono aX aE
   have aF:=rd1 aX aF
   have ay:=Ow.mono (RSl.mono (RI.mono _)) aX ay
   refine A7 (R:=(RSl (RI .i64))) (xs:=([aJ]:List (List Int))) (RSl.one _) m T27 f Z Z Z (by decide) (All2.cons aY (All2.nil _)) fun aZ a0 w a m a1 f=>Aa ?_
   refine aV aW [aZ] _ _ aX m ?_
   refine AU fun a2 w a3 m=> ?_
   have h0_0:=rd2 a3 h0_0
   have aE:=At.mono a3 aE
   have aF:=rd1 a3 aF
   have aY:=rd1 a3 aY
   have a1:=Ow.mono (RSl.mono (RI.mono _)) a3 a1
   have ay:=Ow.mono (RSl.mono (RI.mono _)) a3 ay
   obtain⟨a4,a5,av⟩:=bind_some av
   refine Bh (RSl.one _) 4 m ay Z T27 Z (by decide) f Z Z Z (Ow.src (j:=0) a1 m Z) a5 fun a6 a7 w a m a8 f=>Bk Tryz.underlying29 Z Tryz.sizeOf27 f Z fun a f=>AG 3 0 (ds:=[a7]) m Tryz.sizeOf27 f Z Z (Ow.cells 4 m a8 Z) (Av (Ow.one1 4 m a8 Z) AS) Z (Nat.le_of_ble_eq_true Z) Z fun w m=>Aa (Ah ?_)
   refine Ab f Z fun a f=>Ai f Z Z As fun a f=>Ad f Z fun a f=>Aa ?_
   have m:=m.front 4 rfl
   have m:=m.front 4 rfl
   have m:Mem W a2 w (Itm.box ab 29 [(.slice none 0 0)]::Itm.box ad 29 [a7]::a6::aZ::Itm.box aa 29 [v0_0]::H):=m.front 4 rfl
   have m:=m.front 4 rfl
   have m:Mem W a2 w (Itm.box aa 29 [v0_0]::Itm.box ab 29 [(.slice none 0 0)]::Itm.box ad 29 [a7]::a6::H):=m.eraseAt 4
   obtain rfl:=sj av
   exact⟨_,Z,_,_,Z,_,a7,a6,(gt ax (gt aH (gt aO (gt aU (gt aX a3))))),f.k Z,m,a8⟩
  ·refine Ag f Z az ?_
   refine Aw Z ?_
   have m:=m.front 3 rfl
   have m:=m.front 3 rfl
   have m:Mem W ap w (Itm.box ab 29 [(.slice none 0 0)]::Itm.box ad 29 [aq]::ar::Itm.box aa 29 [v0_0]::H):=m.front 3 rfl
   have m:=m.eraseAt 3
   obtain rfl:=sj av
   obtain rfl:=aw _ rfl
   exact⟨_,Z,_,aq,ar,ax,f.k Z,m,ay⟩
 ·rintro a w ⟨ai,rfl,aj,ak,al,a9,f,m,ba⟩
  refine Ac ?_
  refine AE 1 0 (ds:=[ak]) m Bo f Z Z Z Z Z fun a f=>AG 0 0 (ds:=[ak]) m Tryz.sizeOf29 f Z Z Z (Av (Ow.one1 2 m ba Z) AS) Z (Nat.le_of_ble_eq_true Z) Z fun w m=>Aa ?_
  refine Ao ?_
  have bb:=Ci (P:=Tryz.prog) 0 m Bo f (s:=2) rfl rfl rfl
  have m:=m.front 2 rfl
  have m:=m.eraseAt 2
  have m:=m.eraseAt 1
  obtain rfl:=sj hd
  exact⟨[(.agg #[ak])],⟨bb,trivial⟩,f.defers,_,[al],a9,m,_,_,Z,Z,ba⟩
theorem Wk.h0 {W w:World}{G:GH}{H:List Itm}{v0_0:Value}{v2:Value}{x0_0:(List (List Int))}{x1:Int}{x2:(List Bool)}(m:Mem W G w (H))(h0_0:RSl (RSl (RI .i64)) G v0_0 x0_0)(h2:RSl RB G v2 x2){y:((List Int))}(hd:D.h0 x0_0 x1 x2=some y):
  Calls Tryz.prog 58 #[(.agg #[v0_0]),(.int .i64 x1),v2] w (Res W G H (fun G' Ho v=>∃r0:Value,∃i0:Itm,Ho=[i0]∧r0=v∧Ow (RI .i64) 2 G' i0 r0 y)):=by
 refine Aq (args:=[(.agg #[v0_0]),(.int .i64 x1),v2]) (N:=44) [.tmp 6] Tryz.func58 Z Z (Nat.le_of_ble_eq_true Z) Z fun a f=> ?_
 unfold D.h0 at hd
 refine Ac ?_
 refine Bm (cs:=[v0_0]) m f Z Z Z fun aa w a m f=>Ad f Z fun a f=>Aa (Ac ?_)
 refine A7 (R:=(RI .i64)) (xs:=([]:List Int)) (RI.one _) m T31 f Z Z Z (by decide) (All2.nil _) fun ab ac w a m ad f=>Ad f Z fun a f=>Aa (Af (Ac ?_))
 refine Ad f Z fun a f=>Aa ?_
 obtain⟨ae,af,hd⟩:=bind_some hd
 refine AF (fun a w=>∃ag:List Int,ag=ae∧∃(ah:GH) (ai:Value) (aj:Itm),GLe G ah∧Fr a 44 [(7,ai)]∧Mem W ah w (aj::H)∧Ow (RI .i64) 2 ah aj ai ag) ?_ ?_
 ·refine Aj ?_
  have m:=m.front 1 rfl
  refine AC (fun ak a w=>∃al:List Int,∃am:Int,(al,am)=ak∧∃(an:GH) (ao:Value) (ap:Itm),GLe G an∧Fr a 44 [(1,(.int .i64 x1)),(2,v2),(3,(.pointer (some ⟨aa,0,none⟩))),(7,ao),(8,(.int .i64 am))]∧Mem W an w (Itm.box aa 29 [v0_0]::ap::H)∧Ow (RI .i64) 2 an ap ao al) af ⟨_,_,Z,_,ac,ab,gr,f.k Z,m,ad⟩ ?_
  clear af f m
  rintro ak aq ar au a w ⟨al,am,rfl,an,ao,ap,av,f,m,aw⟩
  have h2:=RSl.mono RB.mono _ _ _ _ av h2
  have h0_0:=rd2 av h0_0
  refine Af (Ac ?_)
  refine Ab f Z fun a f=>Bk Tryz.underlying29 Z Tryz.sizeOf27 f Z fun a f=>Ay 0 0 m AX f Z Z Z Z fun a f=>Ab f Z fun a f=> ?_
  obtain⟨ax,ay,ar⟩:=bind_some ar
  refine AZ T27 f Z Z Z h0_0 ay fun az aA a aB aC f=>Au m AO f Z Z aB fun a f=>AT Tryz.underlying31 f Z Z aC fun a f=>Ai f Z Z AA fun a f=>Aa ?_
  rcases Ae ar with⟨aD,ar⟩|⟨aD,ar⟩
  ·refine Ak f Z aD ?_
   refine Al ?_
   refine Af (Aj (Ac ?_))
   refine Ab f Z fun a f=>Bk Tryz.underlying29 Z Tryz.sizeOf27 f Z fun a f=>Ay 0 0 m AX f Z Z Z Z fun a f=>Ab f Z fun a f=> ?_
   obtain⟨aE,aF,ar⟩:=bind_some ar
   refine AZ T27 f Z Z Z h0_0 aF fun aG aH a aI aJ f=>Au m AO f Z Z aI fun a f=>Ab f Z fun a f=> ?_
   obtain⟨aK,aL,ar⟩:=bind_some ar
   refine AZ T31 f Z Z Z aJ aL fun aM aN a aO aP f=> ?_
   subst aP
   refine Au m Pl2 f Z Z aO fun a f=> ?_
   obtain⟨aQ,aR,ar⟩:=bind_some ar
   refine AZ T71 f Z Z Z h2 aR fun aS aT a aU aV f=> ?_
   subst aV
   refine Au m Pl4 f Z Z aU fun a f=>l_o f (Bs (f.eval Z)) fun a f=>Aa ?_
   rcases Ae ar with⟨aW,ar⟩|⟨aW,ar⟩
   ·refine Ak f Z aW ?_
    refine Ah ?_
    refine Ab f Z fun a f=>Bk Tryz.underlying29 Z Tryz.sizeOf27 f Z fun a f=>Ay 0 0 m AX f Z Z Z Z fun a f=>Ab f Z fun a f=> ?_
    obtain⟨aX,aY,ar⟩:=bind_some ar
    refine AZ T27 f Z Z Z h0_0 aY fun aZ a0 a a1 a2 f=>Au m AO f Z Z a1 fun a f=>Ab f Z fun a f=> ?_
    obtain⟨a3,a4,ar⟩:=bind_some ar
    refine AZ T31 f Z Z Z a2 a4 fun a5 a6 a a7 a8 f=> ?_
    subst a8
    refine Au m Pl2 f Z Z a7 fun a f=>A7 (R:=(RI .i64)) (xs:=([a3]:List Int)) (RI.one _) m T31 f Z Z Z (by decide) (All2.cons Z (All2.nil _)) fun a9 ba w a m bb f=> ?_
    obtain⟨bc,bd,ar⟩:=bind_some ar
    refine Bh (RI.one _) 2 m aw Z T31 Z (by decide) f Z Z Z (Ow.src (j:=0) bb m Z) bd fun be bf w a m bg f=>Ad f Z fun a f=>Aa (Ah ?_)
    refine Ab f Z fun a f=>Ai f Z Z As fun a f=>Ad f Z fun a f=>Aa ?_
    have m:=m.front 2 rfl
    have m:=m.front 2 rfl
    have m:=m.eraseAt 2
    obtain rfl:=sj ar
    exact⟨_,Z,_,_,Z,_,bf,be,av,f.k Z,m,bg⟩
   ·refine Ag f Z aW ?_
    refine Al ?_
    refine Ah ?_
    refine Ab f Z fun a f=>Ai f Z Z As fun a f=>Ad f Z fun a f=>Aa ?_
    obtain rfl:=sj ar
    exact⟨_,Z,_,_,Z,_,ao,ap,av,f.k Z,m,aw⟩
  ·refine Ag f Z aD ?_
   refine Aw Z ?_
   have m:=m.front 1 rfl
   have m:=m.eraseAt 1
   obtain rfl:=sj ar
   obtain rfl:=au _ rfl
   exact⟨_,Z,_,ao,ap,av,f.k Z,m,aw⟩
 ·rintro a w ⟨ag,rfl,ah,ai,aj,bh,f,m,bi⟩
  refine Ac ?_
  refine Ab f Z fun a f=>Ad f Z fun a f=>Aa ?_
  refine Ao ?_
  obtain rfl:=sj hd
  exact⟨[ai],⟨f.get _ _ Z,trivial⟩,f.defers,_,[aj],bh,m,_,_,Z,Z,bi⟩
theorem Wk.F0 {W w:World}{G:GH}{H:List Itm}{v0_0:Value}{it0_0:Itm}{x0_0:(List (List Int))}{x1:Int}{x2:Int}(m:Mem W G w (it0_0::H))(o0_0:Ow (RSl (RI .i64)) 31 G it0_0 v0_0 x0_0){y:((List (List Int)))}(hd:D.F0 x0_0 x1 x2=some y):
  Calls Tryz.prog 68 #[(.agg #[v0_0]),(.int .i64 x1),(.int .i64 x2)] w (Res W G H (fun G' Ho v=>∃i0:Itm,Ho=[i0]∧v=(.agg #[v0_0])∧Ow (RSl (RI .i64)) 31 G' i0 v0_0 y)):=by
 refine Aq (args:=[(.agg #[v0_0]),(.int .i64 x1),(.int .i64 x2)]) (N:=30) [.cell 6 29] Tryz.func68 Z Z (Nat.le_of_ble_eq_true Z) Z fun a f=> ?_
 unfold D.F0 at hd
 refine Ac ?_
 refine Bm (cs:=[v0_0]) m f Z Z Z fun aa w a m f=>Bp (cs:=[(.slice none 0 0)]) Tryz.zeroValue29 m f Z Z fun ab w a m f=>Aa (Af ?_)
 refine AY 11 AI (by kernel_rfl) m ?_
 refine BT 0 11 Tryz.underlying29 Z Tryz.sizeOf27 Z f Z fun a f=>BD 1 11 1 AX Z Z Z f Z fun a f=>Am 2 11 Z f Z fun a f=>BT 3 11 Tryz.underlying29 Z Tryz.sizeOf27 Z f Z fun a f=>BD 4 11 1 AX Z Z Z f Z fun a f=>Am 5 11 Z f Z fun a f=> ?_
 obtain⟨ac,ad,hd⟩:=bind_some hd
 refine AW 6 11 2 m o0_0 T27 ad Z f Z Z fun ae a af f=>Bg 7 11 2 o0_0 AO af ad Z f Z fun ag a ah f=>Am 8 11 Z f Z fun a f=>Br (i:=9) Z (by kernel_rfl) Z fun ai w aj m ak ak=> ?_
 have ah:=rd1 aj ah
 have o0_0:=Ow.mono (RSl.mono (RI.mono _)) aj o0_0
 obtain⟨al,am,hd⟩:=bind_some hd
 refine AK f Z Tryz.call85 (Wk.h m ah am) fun an ao ap w aq m ar a f=> ?_
 obtain⟨au,rfl,rfl,av⟩:=ar
 have ah:=rd1 aq ah
 have o0_0:=Ow.mono (RSl.mono (RI.mono _)) aq o0_0
 refine Aa ?_
 refine ak ao [] _ _ aq m ?_
 obtain⟨aw,ax,hd⟩:=bind_some hd
 refine AW 10 11 2 m o0_0 T27 ax Z f Z Z fun ay a az f=>AU fun aA w aB m=> ?_
 have ah:=rd1 aB ah
 have av:=rd1 aB av
 have o0_0:=Ow.mono (RSl.mono (RI.mono _)) aB o0_0
 refine AH 2 m o0_0 Z Tryz.sizeOf31 f Z Z az ax av.cells av.one1 av fun aC w m aD=>Aa (Af ?_)
 refine AY 11 AI (by kernel_rfl) m ?_
 refine BT 0 11 Tryz.underlying29 Z Tryz.sizeOf27 Z f Z fun a f=>BD 1 11 1 AX Z Z Z f Z fun a f=>Am 2 11 Z f Z fun a f=>BT 3 11 Tryz.underlying29 Z Tryz.sizeOf27 Z f Z fun a f=>BD 4 11 1 AX Z Z Z f Z fun a f=>Am 5 11 Z f Z fun a f=> ?_
 obtain⟨aE,aF,hd⟩:=bind_some hd
 refine AW 6 11 2 m aD T27 aF Z f Z Z fun aG a aH f=>Bg 7 11 2 aD AO aH aF Z f Z fun aI a aJ f=>Am 8 11 Z f Z fun a f=>Br (i:=9) Z (by kernel_rfl) Z fun aK w aL m aM aM=> ?_
 have aJ:=rd1 aL aJ
 have aD:=Ow.mono (RSl.mono (RI.mono _)) aL aD
 obtain⟨aN,aO,hd⟩:=bind_some hd
 refine AK f Z Tryz.call85 (Wk.h m aJ aO) fun aP aQ aR w aS m aT a f=> ?_
 obtain⟨aU,rfl,rfl,aV⟩:=aT
 have aJ:=rd1 aS aJ
 have aD:=Ow.mono (RSl.mono (RI.mono _)) aS aD
 refine Aa ?_
 refine aM aQ [] _ _ aS m ?_
 obtain⟨aW,aX,hd⟩:=bind_some hd
 refine AW 10 11 2 m aD T27 aX Z f Z Z fun aY a aZ f=>AU fun a0 w a1 m=> ?_
 have aJ:=rd1 a1 aJ
 have aV:=rd1 a1 aV
 have aD:=Ow.mono (RSl.mono (RI.mono _)) a1 aD
 refine AH 2 m aD Z Tryz.sizeOf31 f Z Z aZ aX aV.cells aV.one1 aV fun a2 w m a3=>Aa (Ac ?_)
 refine AE 1 0 (ds:=[v0_0]) m Bo f Z Z Z Z Z fun a f=>AG 0 0 (ds:=[v0_0]) m Tryz.sizeOf29 f Z Z Z (Av (Ow.one1 2 m a3 Z) AS) Z (Nat.le_of_ble_eq_true Z) Z fun w m=>Aa ?_
 refine Ao ?_
 have a4:=Ci (P:=Tryz.prog) 0 m Bo f (s:=6) rfl rfl rfl
 have m:=m.front 2 rfl
 have m:=m.eraseAt 2
 have m:=m.eraseAt 1
 obtain rfl:=sj hd
 exact⟨[(.agg #[v0_0])],⟨a4,trivial⟩,f.defers,_,[a2],(gt aj (gt aq (gt aB (gt aL (gt aS a1))))),m,_,Z,Z,a3⟩
theorem Wk.p0 {W w:World}{G:GH}{H:List Itm}{v0_0:Value}{it0_0:Itm}{v1:Value}{x0_0:(List (List Int))}{x1:(List Int)}(m:Mem W G w (it0_0::H))(o0_0:Ow (RSl (RI .i64)) 31 G it0_0 v0_0 x0_0)(h1:RSl (RI .i64) G v1 x1){y:((List (List Int)))}(hd:D.p0 x0_0 x1=some y):
  Calls Tryz.prog 117 #[(.agg #[v0_0]),v1] w (Res W G H (fun G' Ho v=>∃i0:Itm,Ho=[i0]∧v=(.agg #[v0_0])∧Ow (RSl (RI .i64)) 31 G' i0 v0_0 y)):=by
 refine Aq (args:=[(.agg #[v0_0]),v1]) (N:=29) [.cell 4 29] Tryz.func117 Z Z (Nat.le_of_ble_eq_true Z) Z fun a f=> ?_
 unfold D.p0 at hd
 refine Ac ?_
 refine Bm (cs:=[v0_0]) m f Z Z Z fun aa w a m f=>Bp (cs:=[(.slice none 0 0)]) Tryz.zeroValue29 m f Z Z fun ab w a m f=>Aa (Af (Ac ?_))
 refine Ad f Z fun a f=>Aa ?_
 obtain⟨ac,ad,hd⟩:=bind_some hd
 refine AF (fun a w=>∃ae:List (List Int),ae=ac∧∃(af:GH) (ag:Itm),GLe G af∧Fr a 29 [(2,(.pointer (some ⟨aa,0,none⟩))),(4,(.pointer (some ⟨ab,0,none⟩)))]∧Mem W af w (Itm.box aa 29 [v0_0]::Itm.box ab 29 [(.slice none 0 0)]::ag::H)∧Ow (RSl (RI .i64)) 31 af ag v0_0 ae) ?_ ?_
 ·refine Aj ?_
  have m:=m.front 1 rfl
  refine AC (fun ah a w=>∃ai:List (List Int),∃aj:Int,(ai,aj)=ah∧∃(ak:GH) (al:Itm),GLe G ak∧Fr a 29 [(1,v1),(2,(.pointer (some ⟨aa,0,none⟩))),(4,(.pointer (some ⟨ab,0,none⟩))),(5,(.int .i64 aj))]∧Mem W ak w (Itm.box aa 29 [v0_0]::Itm.box ab 29 [(.slice none 0 0)]::al::H)∧Ow (RSl (RI .i64)) 31 ak al v0_0 ai) ad ⟨_,_,Z,_,it0_0,gr,f.k Z,m,o0_0⟩ ?_
  clear ad f m
  rintro ah am an ao a w ⟨ai,aj,rfl,ak,al,ap,f,m,aq⟩
  have h1:=rd1 ap h1
  refine Af (Ac ?_)
  refine Ab f Z fun a f=>Ab f Z fun a f=>AT Tryz.underlying31 f Z Z h1 fun a f=>Ai f Z Z AA fun a f=>Aa ?_
  rcases Ae an with⟨ar,an⟩|⟨ar,an⟩
  ·refine Ak f Z ar ?_
   refine Al ?_
   refine Af (Aj (Ac ?_))
   refine Ad f Z fun a f=>Aa ?_
   obtain⟨au,av,an⟩:=bind_some an
   refine AF (fun a w=>∃aw:List (List Int),aw=au∧∃(ax:GH) (ay:Itm),GLe ak ax∧Fr a 29 [(1,v1),(2,(.pointer (some ⟨aa,0,none⟩))),(4,(.pointer (some ⟨ab,0,none⟩))),(5,(.int .i64 aj))]∧Mem W ax w (Itm.box aa 29 [v0_0]::Itm.box ab 29 [(.slice none 0 0)]::ay::H)∧Ow (RSl (RI .i64)) 31 ax ay v0_0 aw) ?_ ?_
   ·refine Aj ?_
    refine AC (fun az a w=>∃aA:List (List Int),∃aB:Int,(aA,aB)=az∧∃(aC:GH) (aD:Itm),GLe ak aC∧Fr a 29 [(1,v1),(2,(.pointer (some ⟨aa,0,none⟩))),(4,(.pointer (some ⟨ab,0,none⟩))),(5,(.int .i64 aj)),(6,(.int .i64 aB))]∧Mem W aC w (Itm.box aa 29 [v0_0]::Itm.box ab 29 [(.slice none 0 0)]::aD::H)∧Ow (RSl (RI .i64)) 31 aC aD v0_0 aA) av ⟨_,_,Z,_,al,gr,f.k Z,m,aq⟩ ?_
    clear av f m
    rintro az aE aF aG a w ⟨aA,aB,rfl,aC,aD,aH,f,m,aI⟩
    have h1:=rd1 aH h1
    refine Af (Ac ?_)
    refine Ab f Z fun a f=>Ab f Z fun a f=>Ai f Z Z AA fun a f=>Aa ?_
    rcases Ae aF with⟨aJ,aF⟩|⟨aJ,aF⟩
    ·refine Ak f Z aJ ?_
     refine Al ?_
     refine Af (Aj ?_)
     refine AY 9 AI (by kernel_rfl) m ?_
     refine B6 (i:=0) (ds:=[v0_0]) 9 0 Bo Z Z Z Z (by kernel_rfl) Z f Z Z Z fun a f=>Am 1 9 Z f Z fun a f=>Am 2 9 Z f Z fun a f=> ?_
     obtain⟨aK,aL,aF⟩:=bind_some aF
     refine BF 3 9 T31 h1 aL Z f Z Z fun aM aN a aO aP f=> ?_
     subst aP
     refine BE 4 9 Pl2 aO Z f Z fun a f=>Am 5 9 Z f Z fun a f=>Am 6 9 Z f Z fun a f=> ?_
     obtain⟨aQ,aR,aF⟩:=bind_some aF
     refine BF 7 9 T31 h1 aR Z f Z Z fun aS aT a aU aV f=> ?_
     subst aV
     refine BE 8 9 Pl2 aU Z f Z fun a f=>AU fun aW w aX m=> ?_
     have h1:=rd1 aX h1
     have aO:=At.mono aX aO
     have aU:=At.mono aX aU
     have aI:=Ow.mono (RSl.mono (RI.mono _)) aX aI
     have m:=m.front 2 rfl
     obtain⟨aY,aZ,aF⟩:=bind_some aF
     refine AK f Z Tryz.call68 (Wk.F0 m aI aZ) fun a0 a1 a2 w a3 m a4 a f=> ?_
     obtain⟨a5,rfl,rfl,a6⟩:=a4
     have h1:=rd1 a3 h1
     have aO:=At.mono a3 aO
     have aU:=At.mono a3 aU
     refine AG 1 0 (ds:=[v0_0]) m Tryz.sizeOf29 f Z Z Z (Av (Ow.one1 0 m a6 Z) AS) Z (Nat.le_of_ble_eq_true Z) Z fun w m=>Aa (Ah ?_)
     refine Ab f Z fun a f=>Ai f Z Z As fun a f=>Ad f Z fun a f=>Aa ?_
     have m:=m.front 2 rfl
     have m:=m.front 2 rfl
     obtain rfl:=sj aF
     exact⟨_,Z,_,_,Z,_,a5,(gt aH (gt aX a3)),f.k Z,m,a6⟩
    ·refine Ag f Z aJ ?_
     refine Aw Z ?_
     obtain rfl:=sj aF
     obtain rfl:=aG _ rfl
     exact⟨_,Z,_,aD,aH,f.k Z,m,aI⟩
   ·rintro a w ⟨aw,rfl,ax,ay,a7,f,m,a8⟩
    have h1:=rd1 a7 h1
    refine Ah ?_
    refine Ab f Z fun a f=>Ai f Z Z As fun a f=>Ad f Z fun a f=>Aa ?_
    obtain rfl:=sj an
    exact⟨_,Z,_,_,Z,_,ay,(gt ap a7),f.k Z,m,a8⟩
  ·refine Ag f Z ar ?_
   refine Aw Z ?_
   obtain rfl:=sj an
   obtain rfl:=ao _ rfl
   exact⟨_,Z,_,al,ap,f.k Z,m,aq⟩
 ·rintro a w ⟨ae,rfl,af,ag,a9,f,m,ba⟩
  refine Ac ?_
  refine AE 0 0 (ds:=[v0_0]) m Bo f Z Z Z Z Z fun a f=>AG 1 0 (ds:=[v0_0]) m Tryz.sizeOf29 f Z Z Z (Av (Ow.one1 2 m ba Z) AS) Z (Nat.le_of_ble_eq_true Z) Z fun w m=>Aa ?_
  refine Ao ?_
  have bb:=Ci (P:=Tryz.prog) 1 m Bo f (s:=4) rfl rfl rfl
  have m:=m.front 2 rfl
  have m:=m.eraseAt 2
  have m:=m.eraseAt 1
  obtain rfl:=sj hd
  exact⟨[(.agg #[v0_0])],⟨bb,trivial⟩,f.defers,_,[ag],a9,m,_,Z,Z,ba⟩
theorem Wk.E0 {W w:World}{G:GH}{H:List Itm}{v0_0:Value}{v1:Value}{x0_0:(List (List Int))}{x1:(List Int)}(m:Mem W G w (H))(h0_0:RSl (RSl (RI .i64)) G v0_0 x0_0)(h1:RSl (RI .i64) G v1 x1){y:((List (List Int)))}(hd:D.E0 x0_0 x1=some y):
  Calls Tryz.prog 87 #[(.agg #[v0_0]),v1] w (Res W G H (fun G' Ho v=>∃r0:Value,∃i0:Itm,Ho=[i0]∧v=(.agg #[r0])∧Ow (RSl (RI .i64)) 31 G' i0 r0 y)):=by
 refine Aq (args:=[(.agg #[v0_0]),v1]) (N:=35) [.cell 4 29] Tryz.func87 Z Z (Nat.le_of_ble_eq_true Z) Z fun a f=> ?_
 unfold D.E0 at hd
 refine Ac ?_
 refine Bm (cs:=[v0_0]) m f Z Z Z fun aa w a m f=>Bp (cs:=[(.slice none 0 0)]) Tryz.zeroValue29 m f Z Z fun ab w a m f=>Aa (Ac ?_)
 refine AE 1 0 (ds:=[v0_0]) m Bo f Z Z Z Z Z fun a f=> ?_
 obtain⟨ac,ad,hd⟩:=bind_some hd
 refine AK f Z Tryz.call116 (Wk.O0 m h0_0 ad) fun ae af ag w ah m ai a f=> ?_
 obtain⟨aj,ak,rfl,rfl,al⟩:=ai
 have h0_0:=rd2 ah h0_0
 have h1:=rd1 ah h1
 refine Bp (cs:=[(.slice none 0 0)]) Tryz.zeroValue29 m f Z Z fun am w a m f=>AG 0 0 (ds:=[aj]) m Tryz.sizeOf29 f Z Z Z (Av (Ow.one1 1 m al Z) AS) Z (Nat.le_of_ble_eq_true Z) Z fun w m=>Aa (Ac ?_)
 refine AE 3 0 (ds:=[v0_0]) m Bo f Z Z Z Z Z fun a f=> ?_
 obtain⟨an,ao,hd⟩:=bind_some hd
 refine Bc f Z Tryz.call42 (Wk.a m h0_0 ao) fun ap w aq m a f=> ?_
 have h0_0:=rd2 aq h0_0
 have h1:=rd1 aq h1
 have al:=Ow.mono (RSl.mono (RI.mono _)) aq al
 obtain⟨ar,au,hd⟩:=bind_some hd
 refine CU (R:=RB) m T71 Z (by decide) Z f Z Z Z au fun av aw w a m ax f=>Ad f Z fun a f=>Aa (Af (Ac ?_))
 refine Ad f Z fun a f=>Aa ?_
 obtain⟨ay,az,hd⟩:=bind_some hd
 refine AF (fun a w=>∃aA:List (List Int),aA=ay∧∃(aB:GH) (aC:Itm),GLe ap aB∧Fr a 35 [(4,(.pointer (some ⟨ab,0,none⟩))),(5,(.pointer (some ⟨am,0,none⟩)))]∧Mem W aB w (Itm.box ab 29 [(.slice none 0 0)]::Itm.box am 29 [aj]::aC::H)∧Ow (RSl (RI .i64)) 31 aB aC aj aA) ?_ ?_
 ·refine Aj ?_
  have m:=m.front 1 rfl
  have m:=m.front 3 rfl
  have m:=m.eraseAt 4
  refine AC (fun aD a w=>∃aE:List Bool,∃aF:Int,∃aG:List (List Int),(aE,aF,aG)=aD∧∃(aH:GH) (aI:Itm) (aJ:Itm),GLe ap aH∧Fr a 35 [(1,v1),(4,(.pointer (some ⟨ab,0,none⟩))),(5,(.pointer (some ⟨am,0,none⟩))),(6,aw),(7,(.int .i64 aF))]∧Mem W aH w (Itm.box ab 29 [(.slice none 0 0)]::Itm.box am 29 [aj]::aI::aJ::H)∧Ow RB 4 aH aI aw aE∧Ow (RSl (RI .i64)) 31 aH aJ aj aG) az ⟨_,_,_,Z,_,av,ak,gr,f.k Z,m,ax,al⟩ ?_
  clear az f m
  rintro aD aK aL aM a w ⟨aE,aF,aG,rfl,aH,aI,aJ,aN,f,m,aO,aP⟩
  have h1:=rd1 aN h1
  refine Af (Ac ?_)
  refine Ab f Z fun a f=>Ab f Z fun a f=>AT Tryz.underlying31 f Z Z h1 fun a f=>Ai f Z Z AA fun a f=>Aa ?_
  rcases Ae aL with⟨aQ,aL⟩|⟨aQ,aL⟩
  ·refine Ak f Z aQ ?_
   refine Al ?_
   refine Af (Aj (Ac ?_))
   refine Ab f Z fun a f=>Ab f Z fun a f=>Ab f Z fun a f=> ?_
   obtain⟨aR,aS,aL⟩:=bind_some aL
   refine AZ T31 f Z Z Z h1 aS fun aT aU a aV aW f=> ?_
   subst aW
   refine Au m Pl2 f Z Z aV fun a f=> ?_
   obtain⟨aX,aY,aL⟩:=bind_some aL
   refine AV 2 m aO Z T71 f Z Z Z aY fun aZ a a2 f=>AH 2 m aO Z Tryz.sizeOf4 f Z Z a2 aY Z Z Z fun a3 w m a4=>Aa ?_
   refine AY 8 AI (by kernel_rfl) m ?_
   refine B6 (i:=0) (ds:=[aj]) 8 1 Bo Z Z Z Z (by kernel_rfl) Z f Z Z Z fun a f=>B6 (i:=1) (ds:=[aj]) 8 1 Bo Z Z Z Z (by kernel_rfl) Z f Z Z Z fun a f=>Am 2 8 Z f Z fun a f=>Am 3 8 Z f Z fun a f=> ?_
   obtain⟨a5,a6,aL⟩:=bind_some aL
   refine BF 4 8 T31 h1 a6 Z f Z Z fun a7 a8 a a9 ba f=> ?_
   subst ba
   refine BE 5 8 Pl2 a9 Z f Z fun a f=>Am 6 8 Z f Z fun a f=>Br (i:=7) Z (by kernel_rfl) Z fun bb w bc m bd bd=> ?_
   have h1:=rd1 bc h1
   have a9:=At.mono bc a9
   have a4:=Ow.mono RB.mono bc a4
   have aP:=Ow.mono (RSl.mono (RI.mono _)) bc aP
   obtain⟨be,bf,aL⟩:=bind_some aL
   refine AK f Z Tryz.call58 (Ow.lendCall (RSl.mono (RI.mono _)) 3 aP m Z (fun bg bh m bi=>(Ow.lendCall RB.mono 2 (Ow.mono RB.mono bh a4) m Z (fun bj bk m bl=>Wk.h0 m (rd2 bk bi) bl bf) (fun _ G' _ _ ⟨a0,a1,e1,e2,o0⟩=>⟨a0,a1,e1,e2,Ow.free (RI.free _) G' o0⟩))) (fun _ G' _ _ ⟨a0,a1,e1,e2,o0⟩=>⟨a0,a1,e1,e2,Ow.free (RI.free _) G' o0⟩)) fun bm bn bo w bp m bq a f=> ?_
   obtain⟨br,bs,rfl,rfl,bt⟩:=bq
   have h1:=rd1 bp h1
   have a9:=At.mono bp a9
   have a4:=Ow.mono RB.mono bp a4
   have aP:=Ow.mono (RSl.mono (RI.mono _)) bp aP
   refine Aa ?_
   refine bd bn [bs] _ _ bp m ?_
   refine AU fun bu w bv m=> ?_
   have h1:=rd1 bv h1
   have a9:=At.mono bv a9
   have bt:=od1 bv bt
   have a4:=Ow.mono RB.mono bv a4
   have aP:=Ow.mono (RSl.mono (RI.mono _)) bv aP
   obtain⟨bw,bx,m,bz⟩:=Ow.stamp (RI.mono _) bt m
   have h1:=rd1 bx h1
   have a9:=At.mono bx a9
   have a4:=Ow.mono RB.mono bx a4
   have aP:=Ow.mono (RSl.mono (RI.mono _)) bx aP
   have m:Mem W bw w (aJ::Itm.box ab 29 [(.slice none 0 0)]::Itm.box am 29 [aj]::a3::H):=m.front 3 rfl
   obtain⟨bA,bB,aL⟩:=bind_some aL
   refine AK f Z Tryz.call117 (Wk.p0 m aP bz bB) fun bC bD bE w bF m bG a f=> ?_
   obtain⟨bH,rfl,rfl,bI⟩:=bG
   have h1:=rd1 bF h1
   have a9:=At.mono bF a9
   have bz:=rd1 bF bz
   have a4:=Ow.mono RB.mono bF a4
   refine AG 2 0 (ds:=[aj]) m Tryz.sizeOf29 f Z Z Z (Av (Ow.one1 0 m bI Z) AS) Z (Nat.le_of_ble_eq_true Z) Z fun w m=>Aa (Ah ?_)
   refine Ab f Z fun a f=>Ai f Z Z As fun a f=>Ad f Z fun a f=>Aa ?_
   have m:=m.front 3 rfl
   have m:=m.front 3 rfl
   have m:Mem W bD w (Itm.box ab 29 [(.slice none 0 0)]::Itm.box am 29 [aj]::a3::bH::H):=m.front 3 rfl
   obtain rfl:=sj aL
   exact⟨_,Z,_,_,_,Z,_,a3,bH,(gt aN (gt bc (gt bp (gt bv (gt bx bF))))),f.k Z,m,a4,bI⟩
  ·refine Ag f Z aQ ?_
   refine Aw Z ?_
   have m:=m.front 3 rfl
   have m:=m.front 2 rfl
   have m:Mem W aH w (Itm.box ab 29 [(.slice none 0 0)]::Itm.box am 29 [aj]::aJ::aI::H):=m.front 2 rfl
   have m:=m.eraseAt 3
   obtain rfl:=sj aL
   obtain rfl:=aM _ rfl
   exact⟨_,Z,_,aJ,aN,f.k Z,m,aP⟩
 ·rintro a w ⟨aA,rfl,aB,aC,bJ,f,m,bK⟩
  refine Ac ?_
  refine AE 1 0 (ds:=[aj]) m Bo f Z Z Z Z Z fun a f=>AG 0 0 (ds:=[aj]) m Tryz.sizeOf29 f Z Z Z (Av (Ow.one1 2 m bK Z) AS) Z (Nat.le_of_ble_eq_true Z) Z fun w m=>Aa ?_
  refine Ao ?_
  have bL:=Ci (P:=Tryz.prog) 0 m Bo f (s:=4) rfl rfl rfl
  have m:=m.front 2 rfl
  have m:=m.eraseAt 2
  have m:=m.eraseAt 1
  obtain rfl:=sj hd
  exact⟨[(.agg #[aj])],⟨bL,trivial⟩,f.defers,_,[aC],(gt ah (gt aq bJ)),m,_,_,Z,Z,bK⟩
theorem Wk.J0 {W w:World}{G:GH}{H:List Itm}{v0_0:Value}{v1:Value}{x0_0:(List (List Int))}{x1:(List Int)}(m:Mem W G w (H))(h0_0:RSl (RSl (RI .i64)) G v0_0 x0_0)(h1:RSl (RI .i64) G v1 x1){y:((List (List Int)))}(hd:D.J0 x0_0 x1=some y):
  Calls Tryz.prog 46 #[(.agg #[v0_0]),v1] w (Res W G H (fun G' Ho v=>∃r0:Value,∃i0:Itm,Ho=[i0]∧r0=v∧Ow (RSl (RI .i64)) 31 G' i0 r0 y)):=by
 refine Aq (args:=[(.agg #[v0_0]),v1]) (N:=44) [.tmp 4] Tryz.func46 Z Z (Nat.le_of_ble_eq_true Z) Z fun a f=> ?_
 unfold D.J0 at hd
 refine Ac ?_
 refine Bm (cs:=[v0_0]) m f Z Z Z fun aa w a m f=>Ad f Z fun a f=>Aa (Ac ?_)
 refine AE 0 0 (ds:=[v0_0]) m Bo f Z Z Z Z Z fun a f=>Ab f Z fun a f=> ?_
 obtain⟨ab,ac,hd⟩:=bind_some hd
 refine AK f Z Tryz.call87 (Wk.E0 m h0_0 h1 ac) fun ad ae af w ag m ah a f=> ?_
 obtain⟨ai,aj,rfl,rfl,ak⟩:=ah
 have h0_0:=rd2 ag h0_0
 have h1:=rd1 ag h1
 refine Bp (cs:=[(.slice none 0 0)]) Tryz.zeroValue29 m f Z Z fun al w a m f=>AG 0 0 (ds:=[ai]) m Tryz.sizeOf29 f Z Z Z (Av (Ow.one1 1 m ak Z) AS) Z (Nat.le_of_ble_eq_true Z) Z fun w m=>Aa (Ac ?_)
 refine AE 2 0 (ds:=[v0_0]) m Bo f Z Z Z Z Z fun a f=> ?_
 obtain⟨am,an,hd⟩:=bind_some hd
 refine Bc f Z Tryz.call42 (Wk.a m h0_0 an) fun ao w ap m a f=> ?_
 have h0_0:=rd2 ap h0_0
 have h1:=rd1 ap h1
 have ak:=Ow.mono (RSl.mono (RI.mono _)) ap ak
 obtain⟨aq,ar,hd⟩:=bind_some hd
 refine CU (R:=RB) m T71 Z (by decide) Z f Z Z Z ar fun au av w a m aw f=>Ad f Z fun a f=>Aa (Ac ?_)
 refine AE 3 0 (ds:=[v0_0]) m Bo f Z Z Z Z Z fun a f=> ?_
 obtain⟨ax,ay,hd⟩:=bind_some hd
 refine Bc f Z Tryz.call42 (Wk.a m h0_0 ay) fun az w aA m a f=> ?_
 have h0_0:=rd2 aA h0_0
 have h1:=rd1 aA h1
 have aw:=Ow.mono RB.mono aA aw
 have ak:=Ow.mono (RSl.mono (RI.mono _)) aA ak
 obtain⟨aB,aC,hd⟩:=bind_some hd
 refine CU (R:=(RSl (RI .i64))) m T27 Z (by decide) (RSl.nil (RI .i64) az) f Z Z Z aC fun aD aE w a m aF f=>Ad f Z fun a f=>Aa (Af (Ac ?_))
 refine Ad f Z fun a f=>Aa ?_
 obtain⟨aG,aH,hd⟩:=bind_some hd
 refine AF (fun a w=>∃aI:List (List Int),aI=aG∧∃(aJ:GH) (aK:Itm),GLe az aJ∧Fr a 44 [(7,aE)]∧Mem W aJ w (aK::H)∧Ow (RSl (RI .i64)) 31 aJ aK aE aI) ?_ ?_
 ·refine Aj ?_
  have m:=m.front 1 rfl
  have m:=m.front 2 rfl
  have m:=m.eraseAt 4
  refine AC (fun aL a w=>∃aM:List Bool,∃aN:List (List Int),∃aO:Int,(aM,aN,aO)=aL∧∃(aP:GH) (aQ:Itm) (aR:Itm),GLe az aP∧Fr a 44 [(1,v1),(5,(.pointer (some ⟨al,0,none⟩))),(6,av),(7,aE),(8,(.int .i64 aO))]∧Mem W aP w (Itm.box al 29 [ai]::aQ::aR::aj::H)∧Ow RB 4 aP aQ av aM∧Ow (RSl (RI .i64)) 31 aP aR aE aN) aH ⟨_,_,_,Z,_,au,aD,gr,f.k Z,m,aw,aF⟩ ?_
  clear aH f m
  rintro aL aS aT aU a w ⟨aM,aN,aO,rfl,aP,aQ,aR,aV,f,m,aW,aX⟩
  have h1:=rd1 aV h1
  have ak:=Ow.mono (RSl.mono (RI.mono _)) aV ak
  refine Af (Ac ?_)
  refine Ab f Z fun a f=>Ab f Z fun a f=>AT Tryz.underlying31 f Z Z h1 fun a f=>Ai f Z Z AA fun a f=>Aa ?_
  rcases Ae aT with⟨aY,aT⟩|⟨aY,aT⟩
  ·refine Ak f Z aY ?_
   refine Al ?_
   refine Af (Aj (Ac ?_))
   refine Ab f Z fun a f=>Ab f Z fun a f=>Ab f Z fun a f=> ?_
   obtain⟨aZ,a2,aT⟩:=bind_some aT
   refine AZ T31 f Z Z Z h1 a2 fun a3 a4 a a5 a6 f=> ?_
   subst a6
   refine Au m Pl2 f Z Z a5 fun a f=> ?_
   obtain⟨a7,a8,aT⟩:=bind_some aT
   refine AV 1 m aW Z T71 f Z Z Z a8 fun a9 a ba f=>AH 1 m aW Z Tryz.sizeOf4 f Z Z ba a8 Z Z Z fun bb w m bc=>Aa ?_
   refine AY 13 AI (by kernel_rfl) m ?_
   refine Am 0 13 Z f Z fun a f=>Am 1 13 Z f Z fun a f=>Am 2 13 Z f Z fun a f=> ?_
   obtain⟨bd,be,aT⟩:=bind_some aT
   refine BF 3 13 T31 h1 be Z f Z Z fun bf bg a bh bi f=> ?_
   subst bi
   refine BE 4 13 Pl2 bh Z f Z fun a f=>B6 (i:=5) (ds:=[ai]) 13 0 Bo Z Z Z Z (by kernel_rfl) Z f Z Z Z fun a f=>Am 6 13 Z f Z fun a f=>Am 7 13 Z f Z fun a f=> ?_
   obtain⟨bj,bk,aT⟩:=bind_some aT
   refine BF 8 13 T31 h1 bk Z f Z Z fun bl bm a bn bo f=> ?_
   subst bo
   refine BE 9 13 Pl2 bn Z f Z fun a f=>Am 10 13 Z f Z fun a f=>Br (i:=11) Z (by kernel_rfl) Z fun bp w bq m br br=> ?_
   have h1:=rd1 bq h1
   have bh:=At.mono bq bh
   have bn:=At.mono bq bn
   have bc:=Ow.mono RB.mono bq bc
   have aX:=Ow.mono (RSl.mono (RI.mono _)) bq aX
   have ak:=Ow.mono (RSl.mono (RI.mono _)) bq ak
   obtain⟨bs,bt,aT⟩:=bind_some aT
   refine AK f Z Tryz.call58 (Ow.lendCall (RSl.mono (RI.mono _)) 3 ak m Z (fun bu bv m bw=>(Ow.lendCall RB.mono 1 (Ow.mono RB.mono bv bc) m Z (fun bx bz m bA=>Wk.h0 m (rd2 bz bw) bA bt) (fun _ G' _ _ ⟨a0,a1,e1,e2,o0⟩=>⟨a0,a1,e1,e2,Ow.free (RI.free _) G' o0⟩))) (fun _ G' _ _ ⟨a0,a1,e1,e2,o0⟩=>⟨a0,a1,e1,e2,Ow.free (RI.free _) G' o0⟩)) fun bB bC bD w bE m bF a f=> ?_
   obtain⟨bG,bH,rfl,rfl,bI⟩:=bF
   have h1:=rd1 bE h1
   have bh:=At.mono bE bh
   have bn:=At.mono bE bn
   have bc:=Ow.mono RB.mono bE bc
   have aX:=Ow.mono (RSl.mono (RI.mono _)) bE aX
   have ak:=Ow.mono (RSl.mono (RI.mono _)) bE ak
   refine Aa ?_
   refine br bC [bH] _ _ bE m ?_
   obtain⟨bJ,bK,aT⟩:=bind_some aT
   refine AW 12 13 3 m aX T27 bK Z f Z Z fun bL a bM f=>AU fun bN w bO m=> ?_
   have h1:=rd1 bO h1
   have bh:=At.mono bO bh
   have bn:=At.mono bO bn
   have bI:=od1 bO bI
   have bc:=Ow.mono RB.mono bO bc
   have aX:=Ow.mono (RSl.mono (RI.mono _)) bO aX
   have ak:=Ow.mono (RSl.mono (RI.mono _)) bO ak
   obtain⟨bP,bQ,m,bR⟩:=Ow.stamp (RI.mono _) bI m
   have h1:=rd1 bQ h1
   have bh:=At.mono bQ bh
   have bn:=At.mono bQ bn
   have bc:=Ow.mono RB.mono bQ bc
   have aX:=Ow.mono (RSl.mono (RI.mono _)) bQ aX
   have ak:=Ow.mono (RSl.mono (RI.mono _)) bQ ak
   refine AH 2 m aX Z Tryz.sizeOf31 f Z Z bM bK bR.cells bR.one1 bR fun bS w m bT=>Aa (Ah ?_)
   refine Ab f Z fun a f=>Ai f Z Z As fun a f=>Ad f Z fun a f=>Aa ?_
   obtain rfl:=sj aT
   exact⟨_,Z,_,_,_,Z,_,bb,bS,(gt aV (gt bq (gt bE (gt bO bQ)))),f.k Z,m,bc,bT⟩
  ·refine Ag f Z aY ?_
   refine Aw Z ?_
   have m:=m.front 2 rfl
   have m:=m.front 3 rfl
   have m:Mem W aP w (aQ::aj::aR::Itm.box al 29 [ai]::H):=m.front 3 rfl
   have m:=m.front 2 rfl
   have m:=m.eraseAt 3
   have m:Mem W aP w (aR::aQ::H):=m.eraseAt 2
   have m:=m.eraseAt 1
   obtain rfl:=sj aT
   obtain rfl:=aU _ rfl
   exact⟨_,Z,_,aR,aV,f.k Z,m,aX⟩
 ·rintro a w ⟨aI,rfl,aJ,aK,bU,f,m,bV⟩
  refine Ac ?_
  refine Ab f Z fun a f=>Ad f Z fun a f=>Aa ?_
  refine Ao ?_
  obtain rfl:=sj hd
  exact⟨[aE],⟨f.get _ _ Z,trivial⟩,f.defers,_,[aK],(gt ag (gt ap (gt aA bU))),m,_,_,Z,Z,bV⟩
theorem Wk.R0 {W w:World}{G:GH}{H:List Itm}{x0:Int}{x1:Int}(m:Mem W G w (H)){y:Int}(hd:D.R0 x0 x1=some y):
  Calls Tryz.prog 121 #[(.int .i64 x0),(.int .i64 x1)] w (Res W G H (fun _ Ho v=>Ho=[]∧v=(.int .i64 y))):=by
 refine Aq (args:=[(.int .i64 x0),(.int .i64 x1)]) (N:=10) [.tmp 4] Tryz.func121 Z Z (Nat.le_of_ble_eq_true Z) Z fun a f=> ?_
 unfold D.R0 at hd
 refine Ac ?_
 refine Ad f Z fun a f=>Aa (Af (Ac ?_))
 refine Ab f Z fun a f=>Ab f Z fun a f=>Ai f Z Z AA fun a f=>Aa ?_
 rcases Ae hd with⟨aa,hd⟩|⟨aa,hd⟩
 ·refine Ak f Z aa ?_
  refine Ac ?_
  refine Ab f Z fun a f=>Ad f Z fun a f=>Aa ?_
  refine Ao ?_
  obtain rfl:=sj hd
  exact⟨[(.int .i64 x0)],⟨f.get _ _ Z,trivial⟩,f.defers,_,[],gr,m,Z,Z⟩
 ·refine Ag f Z aa ?_
  refine Al ?_
  refine Ac ?_
  refine Ab f Z fun a f=>Ad f Z fun a f=>Aa ?_
  refine Ao ?_
  obtain rfl:=sj hd
  exact⟨[(.int .i64 x1)],⟨f.get _ _ Z,trivial⟩,f.defers,_,[],gr,m,Z,Z⟩
theorem Wk.N {W w:World}{G:GH}{H:List Itm}{v0:Value}{v1:Value}{x0:(List Int)}{x1:(List Int)}(m:Mem W G w (H))(h0:RSl (RI .i64) G v0 x0)(h1:RSl (RI .i64) G v1 x1){y:Bool}(hd:D.N x0 x1=some y):
  Calls Tryz.prog 122 #[v0,v1] w (Res W G H (fun _ Ho v=>Ho=[]∧v=(.bool y))):=by
 refine Aq (args:=[v0,v1]) (N:=40) [.tmp 4] Tryz.func122 Z Z (Nat.le_of_ble_eq_true Z) Z fun a f=> ?_
 unfold D.N at hd
 refine Ac ?_
 refine Ad f Z fun a f=>Aa (Af (Ac ?_))
 refine Ab f Z fun a f=>AT Tryz.underlying31 f Z Z h0 fun a f=>Ab f Z fun a f=>AT Tryz.underlying31 f Z Z h1 fun a f=>Ai f Z Z Cs fun a f=>Aa ?_
 rcases Ae hd with⟨aa,hd⟩|⟨aa,hd⟩
 ·refine Ak f Z aa ?_
  refine Ac ?_
  refine Ab f Z fun a f=>AT Tryz.underlying31 f Z Z h0 fun a f=>Ab f Z fun a f=>AT Tryz.underlying31 f Z Z h1 fun a f=>Ai f Z Z AA fun a f=>Ad f Z fun a f=>Aa ?_
  refine Ao ?_
  obtain rfl:=sj hd
  exact⟨[(.bool (decide ((x0.length:Int)<(x1.length:Int))))],⟨f.get _ _ Z,trivial⟩,f.defers,_,[],gr,m,Z,Z⟩
 ·refine Ag f Z aa ?_
  refine Al ?_
  refine Af (Ac ?_)
  refine Ad f Z fun a f=>Aa ?_
  obtain⟨ab,ac,hd⟩:=bind_some hd
  refine AF (fun a w=>∃q_64':Unit,ab= .inl q_64'∧∃(ad:GH),GLe G ad∧Fr a 40 []∧Mem W ad w (H)) ?_ ?_
  ·refine Aj ?_
   refine AC (fun ae a w=>∃af:Int,af=ae∧∃(ag:GH),GLe G ag∧Fr a 40 [(0,v0),(1,v1),(5,(.int .i64 af))]∧Mem W ag w (H)) ac ⟨_,Z,_,gr,f.k Z,m⟩ ?_
   clear ac f m
   rintro ae ah ai aj a w ⟨af,rfl,ag,ak,f,m⟩
   have h0:=rd1 ak h0
   have h1:=rd1 ak h1
   refine Af (Ac ?_)
   refine Ab f Z fun a f=>Ab f Z fun a f=>AT Tryz.underlying31 f Z Z h0 fun a f=>Ai f Z Z AA fun a f=>Aa ?_
   rcases Ae ai with⟨al,ai⟩|⟨al,ai⟩
   ·refine Ak f Z al ?_
    refine Al ?_
    refine Af (Aj (Af ?_))
    refine AY 9 AI (by kernel_rfl) m ?_
    refine Am 0 9 Z f Z fun a f=>Am 1 9 Z f Z fun a f=> ?_
    obtain⟨am,an,ai⟩:=bind_some ai
    refine BF 2 9 T31 h0 an Z f Z Z fun ao ap a aq ar f=> ?_
    subst ar
    refine BE 3 9 Pl2 aq Z f Z fun a f=>Am 4 9 Z f Z fun a f=>Am 5 9 Z f Z fun a f=> ?_
    obtain⟨au,av,ai⟩:=bind_some ai
    refine BF 6 9 T31 h1 av Z f Z Z fun aw ax a ay az f=> ?_
    subst az
    refine BE 7 9 Pl2 ay Z f Z fun a f=>q_p 8 9 Z f (fun _=>AL (f.eval Z) (f.eval Z) Cs) fun a f=>AU fun aA w aB m=> ?_
    have h0:=rd1 aB h0
    have h1:=rd1 aB h1
    have aq:=At.mono aB aq
    have ay:=At.mono aB ay
    refine Aa ?_
    rcases Ae ai with⟨aC,ai⟩|⟨aC,ai⟩
    ·refine Ak f Z aC ?_
     refine Af ?_
     refine AY 10 AI (by kernel_rfl) m ?_
     refine Am 0 10 Z f Z fun a f=>Am 1 10 Z f Z fun a f=> ?_
     obtain⟨aD,aE,ai⟩:=bind_some ai
     refine BF 2 10 T31 h0 aE Z f Z Z fun aF aG a aH aI f=> ?_
     subst aI
     refine BE 3 10 Pl2 aH Z f Z fun a f=>Am 4 10 Z f Z fun a f=>Am 5 10 Z f Z fun a f=> ?_
     obtain⟨aJ,aK,ai⟩:=bind_some ai
     refine BF 6 10 T31 h1 aK Z f Z Z fun aL aM a aN aO f=> ?_
     subst aO
     refine BE 7 10 Pl2 aN Z f Z fun a f=>q_p 8 10 Z f (fun _=>AL (f.eval Z) (f.eval Z) AA) fun a f=>q_p 9 10 Z f (fun _=>A5 (f.eval Z)) fun a f=>AU fun aP w aQ m=> ?_
     have h0:=rd1 aQ h0
     have h1:=rd1 aQ h1
     have aH:=At.mono aQ aH
     have aN:=At.mono aQ aN
     refine Aa ?_
     refine Ao ?_
     obtain rfl:=sj ai
     obtain rfl:=aj _ rfl
     obtain rfl:=sj hd
     exact⟨[(.bool (decide (aD<aJ)))],⟨f.get _ _ Z,trivial⟩,f.defers,_,[],(gt ak (gt aB aQ)),m,Z,Z⟩
    ·refine Ag f Z aC ?_
     refine Al ?_
     refine Ah ?_
     refine Ab f Z fun a f=>Ai f Z Z As fun a f=>Ad f Z fun a f=>Aa ?_
     obtain rfl:=sj ai
     exact⟨_,Z,_,Z,_,(gt ak aB),f.k Z,m⟩
   ·refine Ag f Z al ?_
    refine Aw Z ?_
    obtain rfl:=sj ai
    obtain rfl:=aj _ rfl
    exact⟨_,Z,_,ak,f.weak trivial,m⟩
  ·rintro a w ⟨_,rfl,ad,aR,f,m⟩
   refine Ac ?_
   refine Ad f Z fun a f=>Aa ?_
   refine Ao ?_
   obtain rfl:=sj hd
   exact⟨[(.bool false)],⟨f.get _ _ Z,trivial⟩,f.defers,_,[],aR,m,Z,Z⟩
theorem Wk.I {W w:World}{G:GH}{H:List Itm}{v0:Value}{x0:(List (List Int))}{x1:Int}{x2:Int}(m:Mem W G w (H))(h0:RSl (RSl (RI .i64)) G v0 x0){y:((List (List Int)))}(hd:D.I x0 x1 x2=some y):
  Calls Tryz.prog 96 #[v0,(.int .i64 x1),(.int .i64 x2)] w (Res W G H (fun G' Ho v=>∃r0:Value,∃i0:Itm,Ho=[i0]∧r0=v∧Ow (RSl (RI .i64)) 31 G' i0 r0 y)):=by
 refine Aq (args:=[v0,(.int .i64 x1),(.int .i64 x2)]) (N:=53) [.tmp 6] Tryz.func96 Z Z (Nat.le_of_ble_eq_true Z) Z fun a f=> ?_
 unfold D.I at hd
 refine Ac ?_
 refine Ad f Z fun a f=>Aa (Ac ?_)
 refine Ab f Z fun a f=>Ab f Z fun a f=> ?_
 obtain⟨aa,ab,hd⟩:=bind_some hd
 refine Bc f Z Tryz.call121 (Wk.R0 m ab) fun ac w ad m a f=> ?_
 have h0:=rd2 ad h0
 refine Ab f Z fun a f=>Ab f Z fun a f=> ?_
 obtain⟨ae,af,hd⟩:=bind_some hd
 refine Bc f Z Tryz.call47 (Wk.w m af) fun ag w ah m a f=> ?_
 have h0:=rd2 ah h0
 refine A7 (R:=(RI .i64)) (xs:=([aa,ae]:List Int)) (RI.one _) m T31 f Z Z Z (by decide) (All2.cons Z (All2.cons Z (All2.nil _))) fun ai aj w a m ak f=>Ad f Z fun a f=>Aa (Ac ?_)
 refine A7 (R:=(RSl (RI .i64))) (xs:=([]:List (List Int))) (RSl.one _) m T27 f Z Z Z (by decide) (All2.nil _) fun al am w a m an f=>Ad f Z fun a f=>Aa (Ac ?_)
 refine Ad f Z fun a f=>Aa (Af (Ac ?_))
 refine Ad f Z fun a f=>Aa ?_
 have m:=m.front 1 rfl
 obtain⟨ao,ap,m,aq⟩:=Ow.stamp (RI.mono _) ak m
 have h0:=rd2 ap h0
 have an:=Ow.mono (RSl.mono (RI.mono _)) ap an
 obtain⟨ar,au,hd⟩:=bind_some hd
 refine AF (fun a w=>∃av:List Int,∃aw:List (List Int),∃ax:Bool,(av,aw,ax)=ar∧∃(ay:GH) (az:Value) (aA:Value) (aB:Itm),GLe ao ay∧Fr a 53 [(7,az),(8,aA),(9,(.bool ax))]∧Mem W ay w (aB::H)∧RSl (RI .i64) ay az av∧Ow (RSl (RI .i64)) 31 ay aB aA aw) ?_ ?_
 ·refine Aj ?_
  refine AC (fun aC a w=>∃aD:List Int,∃aE:List (List Int),∃aF:Bool,∃aG:Int,(aD,aE,aF,aG)=aC∧∃(aH:GH) (aI:Value) (aJ:Value) (aK:Itm),GLe ao aH∧Fr a 53 [(0,v0),(7,aI),(8,aJ),(9,(.bool aF)),(10,(.int .i64 aG))]∧Mem W aH w (aK::H)∧RSl (RI .i64) aH aI aD∧Ow (RSl (RI .i64)) 31 aH aK aJ aE) au ⟨_,_,_,_,Z,_,aj,am,al,gr,f.k Z,m,aq,an⟩ ?_
  clear au f m
  rintro aC aL aM aN a w ⟨aD,aE,aF,aG,rfl,aH,aI,aJ,aK,aO,f,m,aP,aQ⟩
  have h0:=rd2 aO h0
  refine Af (Ac ?_)
  refine Ab f Z fun a f=>Ab f Z fun a f=>AT Tryz.underlying27 f Z Z h0 fun a f=>Ai f Z Z AA fun a f=>Aa ?_
  rcases Ae aM with⟨aR,aM⟩|⟨aR,aM⟩
  ·refine Ak f Z aR ?_
   refine Al ?_
   refine Af (Aj (Af (Ac ?_)))
   refine Ab f Z fun a f=>l_o f (Bs (f.eval Z)) fun a f=>Ab f Z fun a f=> ?_
   obtain⟨aS,aT,aM⟩:=bind_some aM
   refine BA 7 (fun a w=>∃aU,GLe aH aU∧Mem W aU w (aK::H)∧Fr a 53 [(0,v0),(7,aI),(8,aJ),(9,(.bool aF)),(10,(.int .i64 aG)),(22,(.bool (decide (aG<(x0.length:Int))))),(25,(.bool aF)),(26,(.bool (!aF))),(27,(.bool (!aF))),(34,(.bool aS))]) ?_ ?_
   ·rcases Ae aT with⟨aV,aT⟩|⟨aV,aT⟩
    ·refine Az f aV ?_
     refine Ab f Z fun a f=>Az f aV ?_
     refine Ab f Z fun a f=>Az f aV ?_
     refine Ab f Z fun a f=>Az f aV ?_
     obtain⟨aW,aX,aT⟩:=bind_some aT
     refine AZ T27 f Z Z Z h0 aX fun aY aZ a a0 a1 f=>Az f aV ?_
     refine Au m AO f Z Z a0 fun a f=>Az f aV ?_
     obtain⟨a2,a3,aT⟩:=bind_some aT
     refine Bc f Z Tryz.call122 (Wk.N m aP a1 a3) fun a4 w a5 m a f=> ?_
     have h0:=rd2 a5 h0
     have aP:=rd1 a5 aP
     have a0:=At.mono a5 a0
     have a1:=rd1 a5 a1
     have aQ:=Ow.mono (RSl.mono (RI.mono _)) a5 aQ
     refine l_o f (A3 (f.eval Z) aV (f.eval Z)) fun a f=> ?_
     obtain rfl:=sj aT
     exact⟨_,a5,m,f.k Z⟩
    ·refine AB f aV fun a f=> ?_
     refine AB f aV fun a f=>AB f aV fun a f=>AB f aV fun a f=>AB f aV fun a f=>AB f aV fun a f=>l_o f (A2 (f.eval Z) aV (f.eval Z)) fun a f=> ?_
     obtain rfl:=sj aT
     exact⟨_,gr,m,f.k Z⟩
   ·rintro a w ⟨aU,a6,m,f⟩
    have h0:=rd2 a6 h0
    have aP:=rd1 a6 aP
    have aQ:=Ow.mono (RSl.mono (RI.mono _)) a6 aQ
    refine Aa ?_
    rcases Ae aM with⟨a7,aM⟩|⟨a7,aM⟩
    ·refine Ak f Z a7 ?_
     refine Ac ?_
     refine Ab f Z fun a f=>Ab f Z fun a f=>A7 (R:=(RSl (RI .i64))) (xs:=([aD]:List (List Int))) (RSl.one _) m T27 f Z Z Z (by decide) (All2.cons aP (All2.nil _)) fun a8 a9 w a m ba f=> ?_
     obtain⟨bb,bc,aM⟩:=bind_some aM
     refine Bh (RSl.one _) 1 m aQ Z T27 Z (by decide) f Z Z Z (Ow.src (j:=0) ba m Z) bc fun bd be w a m bf f=>Ad f Z fun a f=>Aa (Ah ?_)
     refine Ad f Z fun a f=>Aa (Ah ?_)
     refine Ab f Z fun a f=>Ab f Z fun a f=>Ab f Z fun a f=> ?_
     obtain⟨bg,bh,aM⟩:=bind_some aM
     refine AZ T27 f Z Z Z h0 bh fun bi bj a bk bl f=>Au m AO f Z Z bk fun a f=>A7 (R:=(RSl (RI .i64))) (xs:=([bg]:List (List Int))) (RSl.one _) m T27 f Z Z Z (by decide) (All2.cons bl (All2.nil _)) fun bm bn w a m bo f=> ?_
     obtain⟨bp,bq,aM⟩:=bind_some aM
     refine Bh (RSl.one _) 2 m bf Z T27 Z (by decide) f Z Z Z (Ow.src (j:=0) bo m Z) bq fun br bs w a m bt f=>Ad f Z fun a f=>Aa (Ah ?_)
     refine Ab f Z fun a f=>Ai f Z Z As fun a f=>Ad f Z fun a f=>Aa ?_
     have m:=m.front 2 rfl
     have m:=m.eraseAt 2
     have m:=m.eraseAt 1
     obtain rfl:=sj aM
     exact⟨_,Z,_,_,_,_,Z,_,aI,bs,br,(gt aO a6),f.k Z,m,aP,bt⟩
    ·refine Ag f Z a7 ?_
     refine Al ?_
     refine Ah ?_
     refine Ab f Z fun a f=>Ab f Z fun a f=>Ab f Z fun a f=> ?_
     obtain⟨bu,bv,aM⟩:=bind_some aM
     refine AZ T27 f Z Z Z h0 bv fun bw bx a bz bA f=>Au m AO f Z Z bz fun a f=>A7 (R:=(RSl (RI .i64))) (xs:=([bu]:List (List Int))) (RSl.one _) m T27 f Z Z Z (by decide) (All2.cons bA (All2.nil _)) fun bB bC w a m bD f=> ?_
     obtain⟨bE,bF,aM⟩:=bind_some aM
     refine Bh (RSl.one _) 1 m aQ Z T27 Z (by decide) f Z Z Z (Ow.src (j:=0) bD m Z) bF fun bG bH w a m bI f=>Ad f Z fun a f=>Aa (Ah ?_)
     refine Ab f Z fun a f=>Ai f Z Z As fun a f=>Ad f Z fun a f=>Aa ?_
     have m:=m.front 1 rfl
     have m:=m.eraseAt 1
     obtain rfl:=sj aM
     exact⟨_,Z,_,_,_,_,Z,_,aI,bH,bG,(gt aO a6),f.k Z,m,aP,bI⟩
  ·refine Ag f Z aR ?_
   refine Aw Z ?_
   obtain rfl:=sj aM
   obtain rfl:=aN _ rfl
   exact⟨_,_,_,Z,_,aI,aJ,aK,aO,f.k Z,m,aP,aQ⟩
 ·rintro a w ⟨av,aw,ax,rfl,ay,az,aA,aB,bJ,f,m,bK,bL⟩
  refine Af (Ac ?_)
  refine Ab f Z fun a f=>l_o f (Bs (f.eval Z)) fun a f=>Aa ?_
  rcases Ae hd with⟨bM,hd⟩|⟨bM,hd⟩
  ·refine Ak f Z bM ?_
   refine Ah ?_
   refine Ab f Z fun a f=>Ab f Z fun a f=>A7 (R:=(RSl (RI .i64))) (xs:=([av]:List (List Int))) (RSl.one _) m T27 f Z Z Z (by decide) (All2.cons bK (All2.nil _)) fun bN bO w a m bP f=> ?_
   obtain⟨bQ,bR,hd⟩:=bind_some hd
   refine Bh (RSl.one _) 1 m bL Z T27 Z (by decide) f Z Z Z (Ow.src (j:=0) bP m Z) bR fun bS bT w a m bU f=>Ad f Z fun a f=>Aa (Ac ?_)
   refine Ab f Z fun a f=>Ad f Z fun a f=>Aa ?_
   refine Ao ?_
   have m:=m.front 1 rfl
   have m:=m.eraseAt 1
   obtain rfl:=sj hd
   exact⟨[bT],⟨f.get _ _ Z,trivial⟩,f.defers,_,[bS],(gt ad (gt ah (gt ap bJ))),m,_,_,Z,Z,bU⟩
  ·refine Ag f Z bM ?_
   refine Al ?_
   refine Ac ?_
   refine Ab f Z fun a f=>Ad f Z fun a f=>Aa ?_
   refine Ao ?_
   obtain rfl:=sj hd
   exact⟨[aA],⟨f.get _ _ Z,trivial⟩,f.defers,_,[aB],(gt ad (gt ah (gt ap bJ))),m,_,_,Z,Z,bL⟩
theorem Wk.H {W w:World}{G:GH}{H:List Itm}{v0_0:Value}{v1:Value}{x0_0:(List (List Int))}{x1:(List Int)}(m:Mem W G w (H))(h0_0:RSl (RSl (RI .i64)) G v0_0 x0_0)(h1:RSl (RI .i64) G v1 x1){y:((List (List Int)))×((List (List Int)))×Bool}(hd:D.H x0_0 x1=some y):
  Calls Tryz.prog 60 #[(.agg #[v0_0]),v1] w (Res W G H (fun G' Ho v=>∃r0:Value,∃i0:Itm,∃r2:Value,∃i2:Itm,Ho=[i0,i2]∧v= .tuple #[(.agg #[r0,r2]),(.bool y.2.2)]∧Ow (RSl (RI .i64)) 31 G' i0 r0 y.1∧Ow (RSl (RI .i64)) 31 G' i2 r2 y.2.1)):=by
 refine Aq (args:=[(.agg #[v0_0]),v1]) (N:=78) [.cell 4 36,.tmp 5] Tryz.func60 Z Z (Nat.le_of_ble_eq_true Z) Z fun a f=> ?_
 unfold D.H at hd
 refine Ac ?_
 refine Bm (cs:=[v0_0]) m f Z Z Z fun aa w a m f=>Bp (cs:=[(.slice none 0 0),(.slice none 0 0)]) Tryz.zeroValue36 m f Z Z fun ab w a m f=>Ad f Z fun a f=>Aa (Af (Ac ?_))
 refine AE 1 0 (ds:=[v0_0]) m Bo f Z Z Z Z Z fun a f=>Ab f Z fun a f=> ?_
 obtain⟨ac,ad,hd⟩:=bind_some hd
 refine Bc f Z Tryz.call45 (Wk.r0 m h0_0 h1 ad) fun ae w af m a f=> ?_
 have h0_0:=rd2 af h0_0
 have h1:=rd1 af h1
 refine l_o f (Bs (f.eval Z)) fun a f=>Aa ?_
 rcases Ae hd with⟨ag,hd⟩|⟨ag,hd⟩
 ·refine Ak f Z ag ?_
  refine Ac ?_
  have ah:∀w,(Instr.build 36 #[]).run Tryz.prog w= .ok (.agg #[(.slice none 0 0),(.slice none 0 0)]) w:=by intro w;simp[Instr.build,Instr.fill,Ct,Cg,B3,B5,BQ,Ch]
  refine CL f Z Z ah fun a f=>AG 0 0 (ds:=[(.slice none 0 0),(.slice none 0 0)]) m Tryz.sizeOf36 f Z Z Z (Av Z (Av Z AS)) Z (Nat.le_of_ble_eq_true Z) Z fun w m=>Ad f Z fun a f=>Aa ?_
  refine Ao ?_
  obtain⟨ai,m,aj⟩:=Ow.nil (RSl (RI .i64)) 31 m
  obtain⟨ak,m,al⟩:=Ow.nil (RSl (RI .i64)) 31 m
  have am:=Ci (P:=Tryz.prog) 2 m BG f (s:=4) rfl rfl rfl
  have m:=m.front 1 rfl
  have m:=m.eraseAt 3
  have m:=m.eraseAt 2
  obtain rfl:=sj hd
  exact⟨[(.agg #[(.slice none 0 0),(.slice none 0 0)]),(.bool false)],⟨am,f.get _ _ Z,trivial⟩,f.defers,_,[ai,ak],af,m,_,_,_,_,Z,Z,aj,al⟩
 ·refine Ag f Z ag ?_
  refine Al ?_
  refine Ac ?_
  refine AE 1 0 (ds:=[v0_0]) m Bo f Z Z Z Z Z fun a f=>Ab f Z fun a f=> ?_
  obtain⟨an,ao,hd⟩:=bind_some hd
  refine AK f Z Tryz.call46 (Wk.J0 m h0_0 h1 ao) fun ap aq ar w au m av a f=> ?_
  obtain⟨aw,ax,rfl,rfl,ay⟩:=av
  have h0_0:=rd2 au h0_0
  have h1:=rd1 au h1
  refine Ad f Z fun a f=>Aa (Ac ?_)
  have az:∀w,(Instr.build 36 #[]).run Tryz.prog w= .ok (.agg #[(.slice none 0 0),(.slice none 0 0)]) w:=by intro w;simp[Instr.build,Instr.fill,Ct,Cg,B3,B5,BQ,Ch]
  refine CL f Z Z az fun a f=>Bp (cs:=[(.slice none 0 0),(.slice none 0 0)]) Tryz.zeroValue36 m f Z Z fun aA w a m f=>AG 0 0 (ds:=[(.slice none 0 0),(.slice none 0 0)]) m Tryz.sizeOf36 f Z Z Z (Av Z (Av Z AS)) Z (Nat.le_of_ble_eq_true Z) Z fun w m=>Aa (Ac ?_)
  refine Ab f Z fun a f=>AT Tryz.underlying31 f Z Z h1 fun a f=>Ad f Z fun a f=>Aa (Af (Ac ?_))
  refine Ad f Z fun a f=>Aa ?_
  obtain⟨aB,m,aC⟩:=Ow.nil (RSl (RI .i64)) 31 m
  obtain⟨aD,m,aE⟩:=Ow.nil (RSl (RI .i64)) 31 m
  obtain⟨aF,aG,hd⟩:=bind_some hd
  refine AF (fun a w=>∃aH:List (List Int),∃aI:List (List Int),(aH,aI)=aF∧∃(aJ:GH) (aK:Value) (aL:Itm) (aM:Value) (aN:Itm),GLe aq aJ∧Fr a 78 [(4,(.pointer (some ⟨ab,0,none⟩))),(7,(.pointer (some ⟨aA,0,none⟩)))]∧Mem W aJ w (Itm.box ab 36 [(.slice none 0 0),(.slice none 0 0)]::Itm.box aA 36 [aK,aM]::aL::aN::H)∧Ow (RSl (RI .i64)) 31 aJ aL aK aH∧Ow (RSl (RI .i64)) 31 aJ aN aM aI) ?_ ?_
  ·refine Aj ?_
   have m:=m.front 1 rfl
   have m:=m.front 3 rfl
   have m:Mem W aq w (Itm.box aA 36 [(.slice none 0 0),(.slice none 0 0)]::ax::aB::aD::Itm.box ab 36 [(.slice none 0 0),(.slice none 0 0)]::Itm.box aa 29 [v0_0]::H):=m.front 3 rfl
   have m:=m.front 4 rfl
   have m:Mem W aq w (Itm.box ab 36 [(.slice none 0 0),(.slice none 0 0)]::Itm.box aA 36 [(.slice none 0 0),(.slice none 0 0)]::ax::aB::aD::H):=m.eraseAt 5
   refine AC (fun aO a w=>∃aP:Int,∃aQ:List (List Int),∃aR:List (List Int),(aP,aQ,aR)=aO∧∃(aS:GH) (aT:Value) (aU:Itm) (aV:Value) (aW:Itm),GLe aq aS∧Fr a 78 [(1,v1),(4,(.pointer (some ⟨ab,0,none⟩))),(6,aw),(7,(.pointer (some ⟨aA,0,none⟩))),(8,(.int .i64 (x1.length:Int))),(9,(.int .i64 aP))]∧Mem W aS w (Itm.box ab 36 [(.slice none 0 0),(.slice none 0 0)]::Itm.box aA 36 [aT,aV]::ax::aU::aW::H)∧Ow (RSl (RI .i64)) 31 aS aU aT aQ∧Ow (RSl (RI .i64)) 31 aS aW aV aR) aG ⟨_,_,_,Z,_,(.slice none 0 0),aB,(.slice none 0 0),aD,gr,f.k Z,m,aC,aE⟩ ?_
   clear aG f m
   rintro aO aX aY aZ a w ⟨aP,aQ,aR,rfl,aS,aT,aU,aV,aW,a0,f,m,a1,a2⟩
   have h1:=rd1 a0 h1
   have ay:=Ow.mono (RSl.mono (RI.mono _)) a0 ay
   refine Af (Ac ?_)
   refine Ab f Z fun a f=>Ab f Z fun a f=>Ai f Z Z AA fun a f=>Aa ?_
   rcases Ae aY with⟨a3,aY⟩|⟨a3,aY⟩
   ·refine Ak f Z a3 ?_
    refine Al ?_
    refine Af (Aj (Ac ?_))
    refine Ab f Z fun a f=>Ab f Z fun a f=>Ab f Z fun a f=> ?_
    obtain⟨a4,a5,aY⟩:=bind_some aY
    refine AZ T31 f Z Z Z h1 a5 fun a6 a7 a a8 a9 f=> ?_
    subst a9
    refine Au m Pl2 f Z Z a8 fun a f=> ?_
    obtain⟨ba,bb,aY⟩:=bind_some aY
    refine AV 2 m ay Z T27 f Z Z Z bb fun bc a bd f=>Bt 2 m ay Z AO f Z Z bd bb fun be a bf f=>Ad f Z fun a f=>Aa (Af ?_)
    refine AY 10 AI (by kernel_rfl) m ?_
    refine BT 0 10 Tryz.underlying36 Z Tryz.sizeOf27 Z f Z fun a f=>BD 1 10 1 AX Z Z Z f Z fun a f=>Am 2 10 Z f Z fun a f=>Am 4 10 Z f Z fun a f=>Am 5 10 Z f Z fun a f=> ?_
    obtain⟨bg,bh,aY⟩:=bind_some aY
    refine BF 6 10 T31 h1 bh Z f Z Z fun bi bj a bk bl f=> ?_
    subst bl
    refine BE 7 10 Pl2 bk Z f Z fun a f=>Br (i:=3) Z (by kernel_rfl) Z fun bm w bn m bo bo=> ?_
    have h1:=rd1 bn h1
    have bf:=rd1 bn bf
    have bk:=At.mono bn bk
    have ay:=Ow.mono (RSl.mono (RI.mono _)) bn ay
    have a1:=Ow.mono (RSl.mono (RI.mono _)) bn a1
    have a2:=Ow.mono (RSl.mono (RI.mono _)) bn a2
    obtain⟨bp,bq,aY⟩:=bind_some aY
    refine AK f Z Tryz.call95 (Wk.e m bf bq) fun br bs bt w bu m bv a f=> ?_
    obtain⟨bw,bx,rfl,rfl,bz⟩:=bv
    have h1:=rd1 bu h1
    have bf:=rd1 bu bf
    have bk:=At.mono bu bk
    have ay:=Ow.mono (RSl.mono (RI.mono _)) bu ay
    have a1:=Ow.mono (RSl.mono (RI.mono _)) bu a1
    have a2:=Ow.mono (RSl.mono (RI.mono _)) bu a2
    refine Aa ?_
    refine bo bs [bx] _ _ bu m ?_
    refine Br (i:=8) Z (by kernel_rfl) Z fun bA w bB m bC bC=> ?_
    have h1:=rd1 bB h1
    have bf:=rd1 bB bf
    have bk:=At.mono bB bk
    have bz:=od1 bB bz
    have ay:=Ow.mono (RSl.mono (RI.mono _)) bB ay
    have a1:=Ow.mono (RSl.mono (RI.mono _)) bB a1
    have a2:=Ow.mono (RSl.mono (RI.mono _)) bB a2
    obtain⟨bD,bE,m,bF⟩:=Ow.stamp (RI.mono _) bz m
    have h1:=rd1 bE h1
    have bf:=rd1 bE bf
    have bk:=At.mono bE bk
    have ay:=Ow.mono (RSl.mono (RI.mono _)) bE ay
    have a1:=Ow.mono (RSl.mono (RI.mono _)) bE a1
    have a2:=Ow.mono (RSl.mono (RI.mono _)) bE a2
    obtain⟨bG,bH,aY⟩:=bind_some aY
    refine AK f Z Tryz.call85 (Wk.h m bF bH) fun bI bJ bK w bL m bM a f=> ?_
    obtain⟨bN,rfl,rfl,bO⟩:=bM
    have h1:=rd1 bL h1
    have bf:=rd1 bL bf
    have bF:=rd1 bL bF
    have bk:=At.mono bL bk
    have ay:=Ow.mono (RSl.mono (RI.mono _)) bL ay
    have a1:=Ow.mono (RSl.mono (RI.mono _)) bL a1
    have a2:=Ow.mono (RSl.mono (RI.mono _)) bL a2
    refine Aa ?_
    refine bC bJ [] _ _ (gt bE bL) m ?_
    refine Br (i:=9) Z (by kernel_rfl) Z fun bP w bQ m bR bR=> ?_
    have h1:=rd1 bQ h1
    have bf:=rd1 bQ bf
    have bF:=rd1 bQ bF
    have bk:=At.mono bQ bk
    have bO:=rd1 bQ bO
    have ay:=Ow.mono (RSl.mono (RI.mono _)) bQ ay
    have a1:=Ow.mono (RSl.mono (RI.mono _)) bQ a1
    have a2:=Ow.mono (RSl.mono (RI.mono _)) bQ a2
    refine A7 (R:=(RSl (RI .i64))) (xs:=([bG]:List (List Int))) (RSl.one _) m T27 f Z Z Z (by decide) (All2.cons bO (All2.nil _)) fun bS bT w a m bU f=>Aa ?_
    refine bR bP [bS] _ _ gr m ?_
    refine AU fun bV w bW m=> ?_
    have h1:=rd1 bW h1
    have bf:=rd1 bW bf
    have bF:=rd1 bW bF
    have bk:=At.mono bW bk
    have bO:=rd1 bW bO
    have bU:=Ow.mono (RSl.mono (RI.mono _)) bW bU
    have ay:=Ow.mono (RSl.mono (RI.mono _)) bW ay
    have a1:=Ow.mono (RSl.mono (RI.mono _)) bW a1
    have a2:=Ow.mono (RSl.mono (RI.mono _)) bW a2
    obtain⟨bX,bY,aY⟩:=bind_some aY
    refine Bh (RSl.one _) 4 m a1 Z T27 Z (by decide) f Z Z Z (Ow.src (j:=0) bU m Z) bY fun bZ b0 w a m b1 f=>Bk Tryz.underlying36 Z Tryz.sizeOf27 f Z fun a f=>AG 2 0 (ds:=[b0]) m Tryz.sizeOf27 f Z Z (Ow.cells 4 m b1 Z) (Av (Ow.one1 4 m b1 Z) AS) Z (Nat.le_of_ble_eq_true Z) Z fun w m=>Aa (Ac ?_)
    refine Ab f Z fun a f=>Ai f Z Z As fun a f=>Ad f Z fun a f=>Aa (Af ?_)
    obtain⟨b2,b3,aY⟩:=bind_some aY
    refine AF (fun a w=>∃b4:Int,b4=b2∧∃(b5:GH),GLe bV b5∧Fr a 78 [(1,v1),(4,(.pointer (some ⟨ab,0,none⟩))),(6,aw),(7,(.pointer (some ⟨aA,0,none⟩))),(8,(.int .i64 (x1.length:Int))),(9,(.int .i64 aP)),(11,(.int .i64 b4))]∧Mem W b5 w (Itm.box ab 36 [(.slice none 0 0),(.slice none 0 0)]::Itm.box aA 36 [b0,aV]::ax::bZ::aW::H)) ?_ ?_
    ·refine Aj ?_
     have m:=m.front 5 rfl
     have m:=m.front 5 rfl
     have m:Mem W bV w (ax::bZ::aW::bS::Itm.box ab 36 [(.slice none 0 0),(.slice none 0 0)]::Itm.box aA 36 [b0,aV]::H):=m.front 5 rfl
     have m:=m.front 5 rfl
     have m:=m.front 5 rfl
     have m:Mem W bV w (Itm.box ab 36 [(.slice none 0 0),(.slice none 0 0)]::Itm.box aA 36 [b0,aV]::ax::bZ::aW::H):=m.eraseAt 5
     refine AC (fun b6 a w=>∃b7:Int,b7=b6∧∃(b8:GH),GLe bV b8∧Fr a 78 [(1,v1),(4,(.pointer (some ⟨ab,0,none⟩))),(6,aw),(7,(.pointer (some ⟨aA,0,none⟩))),(8,(.int .i64 (x1.length:Int))),(9,(.int .i64 aP)),(10,be),(11,(.int .i64 b7))]∧Mem W b8 w (Itm.box ab 36 [(.slice none 0 0),(.slice none 0 0)]::Itm.box aA 36 [b0,aV]::ax::bZ::aW::H)) b3 ⟨_,Z,_,gr,f.k Z,m⟩ ?_
     clear b3 f m
     rintro b6 b9 ca cb a w ⟨b7,rfl,b8,cc,f,m⟩
     have h1:=rd1 cc h1
     have bf:=rd1 cc bf
     have ay:=Ow.mono (RSl.mono (RI.mono _)) cc ay
     have b1:=Ow.mono (RSl.mono (RI.mono _)) cc b1
     have a2:=Ow.mono (RSl.mono (RI.mono _)) cc a2
     refine Af (Ac ?_)
     refine Ab f Z fun a f=>Ab f Z fun a f=>Ai f Z Z AA fun a f=>Ab f Z fun a f=> ?_
     refine BA 4 (fun a w=>∃cd,GLe b8 cd∧Mem W cd w (Itm.box ab 36 [(.slice none 0 0),(.slice none 0 0)]::Itm.box aA 36 [b0,aV]::ax::bZ::aW::H)∧Fr a 78 [(1,v1),(4,(.pointer (some ⟨ab,0,none⟩))),(6,aw),(7,(.pointer (some ⟨aA,0,none⟩))),(8,(.int .i64 (x1.length:Int))),(9,(.int .i64 aP)),(10,be),(11,(.int .i64 b7)),(49,(.int .i64 b7)),(50,(.int .i64 (x1.length:Int))),(51,(.bool (decide (b7<(x1.length:Int))))),(52,(.bool (decide (b7<(x1.length:Int))))),(56,(.bool ((decide (b7<(x1.length:Int)))&&(decide ((0:Int)<(ba.length:Int))))))]) ?_ ?_
     ·rcases Bool.eq_false_or_eq_true (decide (b7<(x1.length:Int))) with ce|ce
      ·refine Az f ce ?_
       refine Ab f Z fun a f=>Az f ce ?_
       refine AT Tryz.underlying31 f Z Z bf fun a f=>Az f ce ?_
       refine Ai f Z Z Cr fun a f=>l_o f (A3 (f.eval Z) ce (f.eval Z)) fun a f=> ?_
       exact⟨_,gr,m,f.weak ⟨Z,Z,Z,Z,Z,Z,Z,Z,Z,Z,Z,Z,by rw[ce];rfl,trivial⟩⟩
      ·refine AB f ce fun a f=> ?_
       refine AB f ce fun a f=>AB f ce fun a f=>l_o f (A2 (f.eval Z) ce (f.eval Z)) fun a f=> ?_
       exact⟨_,gr,m,f.weak ⟨Z,Z,Z,Z,Z,Z,Z,Z,Z,Z,Z,Z,by rw[ce];rfl,trivial⟩⟩
     ·rintro a w ⟨cd,cf,m,f⟩
      have h1:=rd1 cf h1
      have bf:=rd1 cf bf
      have ay:=Ow.mono (RSl.mono (RI.mono _)) cf ay
      have b1:=Ow.mono (RSl.mono (RI.mono _)) cf b1
      have a2:=Ow.mono (RSl.mono (RI.mono _)) cf a2
      refine Ab f Z fun a f=> ?_
      obtain⟨cg,ch,ca⟩:=bind_some ca
      refine BA 8 (fun a w=>∃ci,GLe cd ci∧Mem W ci w (Itm.box ab 36 [(.slice none 0 0),(.slice none 0 0)]::Itm.box aA 36 [b0,aV]::ax::bZ::aW::H)∧Fr a 78 [(1,v1),(4,(.pointer (some ⟨ab,0,none⟩))),(6,aw),(7,(.pointer (some ⟨aA,0,none⟩))),(8,(.int .i64 (x1.length:Int))),(9,(.int .i64 aP)),(10,be),(11,(.int .i64 b7)),(49,(.int .i64 b7)),(50,(.int .i64 (x1.length:Int))),(51,(.bool (decide (b7<(x1.length:Int))))),(52,(.bool (decide (b7<(x1.length:Int))))),(56,(.bool ((decide (b7<(x1.length:Int)))&&(decide ((0:Int)<(ba.length:Int)))))),(57,(.bool ((decide (b7<(x1.length:Int)))&&(decide ((0:Int)<(ba.length:Int)))))),(65,(.bool cg))]) ?_ ?_
      ·rcases Ae ch with⟨cj,ch⟩|⟨cj,ch⟩
       ·refine Az f cj ?_
        refine Ab f Z fun a f=>Az f cj ?_
        refine Ab f Z fun a f=>Az f cj ?_
        refine Ab f Z fun a f=>Az f cj ?_
        obtain⟨ck,cl,ch⟩:=bind_some ch
        refine AZ T31 f Z Z Z h1 cl fun cm cn a co cp f=> ?_
        subst cp
        refine Az f cj ?_
        refine Au m Pl2 f Z Z co fun a f=>Az f cj ?_
        obtain⟨cq,cr,ch⟩:=bind_some ch
        refine Bc f Z Tryz.call84 (Wk.f m bf cr) fun ct w cu m a f=> ?_
        have h1:=rd1 cu h1
        have bf:=rd1 cu bf
        have co:=At.mono cu co
        have ay:=Ow.mono (RSl.mono (RI.mono _)) cu ay
        have b1:=Ow.mono (RSl.mono (RI.mono _)) cu b1
        have a2:=Ow.mono (RSl.mono (RI.mono _)) cu a2
        refine Az f cj ?_
        refine l_o f (Bs (f.eval Z)) fun a f=>l_o f (A3 (f.eval Z) cj (f.eval Z)) fun a f=> ?_
        obtain rfl:=sj ch
        exact⟨_,cu,m,f.k Z⟩
       ·refine AB f cj fun a f=> ?_
        refine AB f cj fun a f=>AB f cj fun a f=>AB f cj fun a f=>AB f cj fun a f=>AB f cj fun a f=>AB f cj fun a f=>l_o f (A2 (f.eval Z) cj (f.eval Z)) fun a f=> ?_
        obtain rfl:=sj ch
        exact⟨_,gr,m,f.k Z⟩
      ·rintro a w ⟨ci,cv,m,f⟩
       have h1:=rd1 cv h1
       have bf:=rd1 cv bf
       have ay:=Ow.mono (RSl.mono (RI.mono _)) cv ay
       have b1:=Ow.mono (RSl.mono (RI.mono _)) cv b1
       have a2:=Ow.mono (RSl.mono (RI.mono _)) cv a2
       refine Aa ?_
       rcases Ae ca with⟨cw,ca⟩|⟨cw,ca⟩
       ·refine Ak f Z cw ?_
        refine Al ?_
        refine Aj (Ah ?_)
        refine Ab f Z fun a f=>Ai f Z Z As fun a f=>Ad f Z fun a f=>Aa ?_
        obtain rfl:=sj ca
        exact⟨_,Z,_,Z,_,(gt cc (gt cf cv)),f.k Z,m⟩
       ·refine Ag f Z cw ?_
        refine Aw Z ?_
        obtain rfl:=sj ca
        obtain rfl:=cb _ rfl
        exact⟨_,Z,_,(gt cc (gt cf cv)),f.k Z,m⟩
    ·rintro a w ⟨b4,rfl,b5,cx,f,m⟩
     have h1:=rd1 cx h1
     have ay:=Ow.mono (RSl.mono (RI.mono _)) cx ay
     have b1:=Ow.mono (RSl.mono (RI.mono _)) cx b1
     have a2:=Ow.mono (RSl.mono (RI.mono _)) cx a2
     refine Ac ?_
     refine Ab f Z fun a f=>Ab f Z fun a f=>Ai f Z Z AA fun a f=>Aa ?_
     rcases Ae aY with⟨cy,aY⟩|⟨cy,aY⟩
     ·refine Ak f Z cy ?_
      refine Ah ?_
      refine Bk Tryz.underlying36 Z Tryz.sizeOf27 f Z fun a f=>Ay 1 1 m AX f Z Z Z Z fun a f=>Ab f Z fun a f=>Ab f Z fun a f=> ?_
      have m:Mem W b5 w (aW::Itm.box ab 36 [(.slice none 0 0),(.slice none 0 0)]::Itm.box aA 36 [b0,aV]::ax::bZ::H):=m.front 4 rfl
      obtain⟨cz,cA,m,cB⟩:=Ow.stamp (RSl.mono (RI.mono _)) a2 m
      have h1:=rd1 cA h1
      have ay:=Ow.mono (RSl.mono (RI.mono _)) cA ay
      have b1:=Ow.mono (RSl.mono (RI.mono _)) cA b1
      obtain⟨cC,cD,aY⟩:=bind_some aY
      refine AK f Z Tryz.call96 (Wk.I m cB cD) fun cE cF cG w cH m cI a f=> ?_
      obtain⟨cJ,cK,rfl,rfl,cL⟩:=cI
      have h1:=rd1 cH h1
      have cB:=rd2 cH cB
      have ay:=Ow.mono (RSl.mono (RI.mono _)) cH ay
      have b1:=Ow.mono (RSl.mono (RI.mono _)) cH b1
      refine Bk Tryz.underlying36 Z Tryz.sizeOf27 f Z fun a f=>AG 2 1 (ds:=[cJ]) m Tryz.sizeOf27 f Z Z (Ow.cells 0 m cL Z) (Av (Ow.one1 0 m cL Z) AS) Z (Nat.le_of_ble_eq_true Z) Z fun w m=>Aa (Ah ?_)
      refine Ab f Z fun a f=>Ai f Z Z As fun a f=>Ad f Z fun a f=>Aa ?_
      have m:=m.front 4 rfl
      have m:=m.front 4 rfl
      have m:Mem W cF w (Itm.box aA 36 [b0,cJ]::ax::bZ::cK::Itm.box ab 36 [(.slice none 0 0),(.slice none 0 0)]::H):=m.front 4 rfl
      have m:Mem W cF w (Itm.box ab 36 [(.slice none 0 0),(.slice none 0 0)]::Itm.box aA 36 [b0,cJ]::ax::bZ::cK::H):=m.front 4 rfl
      obtain rfl:=sj aY
      exact⟨_,Z,_,_,_,Z,_,b0,bZ,cJ,cK,(gt a0 (gt bn (gt bu (gt bB (gt bE (gt bL (gt bQ (gt bW (gt cx (gt cA cH)))))))))),f.k Z,m,b1,cL⟩
     ·refine Ag f Z cy ?_
      refine Al ?_
      refine Ah ?_
      refine Ab f Z fun a f=>Ai f Z Z As fun a f=>Ad f Z fun a f=>Aa ?_
      obtain rfl:=sj aY
      exact⟨_,Z,_,_,_,Z,_,b0,bZ,aV,aW,(gt a0 (gt bn (gt bu (gt bB (gt bE (gt bL (gt bQ (gt bW cx)))))))),f.k Z,m,b1,a2⟩
   ·refine Ag f Z a3 ?_
    refine Aw Z ?_
    have m:=m.front 4 rfl
    have m:=m.front 4 rfl
    have m:Mem W aS w (Itm.box aA 36 [aT,aV]::aU::aW::Itm.box ab 36 [(.slice none 0 0),(.slice none 0 0)]::ax::H):=m.front 3 rfl
    have m:=m.front 3 rfl
    have m:Mem W aS w (Itm.box ab 36 [(.slice none 0 0),(.slice none 0 0)]::Itm.box aA 36 [aT,aV]::aU::aW::H):=m.eraseAt 4
    obtain rfl:=sj aY
    obtain rfl:=aZ _ rfl
    exact⟨_,_,Z,_,aT,aU,aV,aW,a0,f.k Z,m,a1,a2⟩
  ·rintro a w ⟨aH,aI,rfl,aJ,aK,aL,aM,aN,cM,f,m,cN,cO⟩
   refine Ac ?_
   refine AE 1 0 (ds:=[aK,aM]) m BG f Z Z Z Z Z fun a f=>AG 0 0 (ds:=[aK,aM]) m Tryz.sizeOf36 f Z Z Z (Av (Ow.one1 2 m cN Z) (Av (Ow.one1 3 m cO Z) AS)) Z (Nat.le_of_ble_eq_true Z) Z fun w m=>Ad f Z fun a f=>Aa ?_
   refine Ao ?_
   have cP:=Ci (P:=Tryz.prog) 0 m BG f (s:=4) rfl rfl rfl
   have m:=m.front 3 rfl
   have m:=m.front 3 rfl
   have m:Mem W aJ w (aL::aN::Itm.box ab 36 [aK,aM]::H):=m.eraseAt 3
   have m:=m.eraseAt 2
   obtain rfl:=sj hd
   exact⟨[(.agg #[aK,aM]),(.bool true)],⟨cP,f.get _ _ Z,trivial⟩,f.defers,_,[aL,aN],(gt af (gt au cM)),m,_,_,_,_,Z,Z,cN,cO⟩
theorem Wk.y0 {W w:World}{G:GH}{H:List Itm}{v0_0:Value}{v0_1:Value}{x0_0:(List (List Int))}{x0_1:(List (List Int))}(m:Mem W G w (H))(h0_0:RSl (RSl (RI .i64)) G v0_0 x0_0)(h0_1:RSl (RSl (RI .i64)) G v0_1 x0_1){y:Bool}(hd:D.y0 x0_0 x0_1=some y):
  Calls Tryz.prog 88 #[(.agg #[v0_0,v0_1])] w (Res W G H (fun _ Ho v=>Ho=[]∧v=(.bool y))):=by
 refine Aq (args:=[(.agg #[v0_0,v0_1])]) (N:=41) [.tmp 2] Tryz.func88 Z Z (Nat.le_of_ble_eq_true Z) Z fun a f=> ?_
 unfold D.y0 at hd
 refine Ac ?_
 refine Bm (cs:=[v0_0,v0_1]) m f Z Z Z fun aa w a m f=>Ad f Z fun a f=>Aa (Ac ?_)
 refine Bk Tryz.underlying36 Z Tryz.sizeOf27 f Z fun a f=>Ay 0 0 m AX f Z Z Z Z fun a f=>AT Tryz.underlying27 f Z Z h0_0 fun a f=>Ad f Z fun a f=>Aa (Af (Ac ?_))
 refine Ab f Z fun a f=> ?_
 obtain⟨ab,ac,hd⟩:=bind_some hd
 refine Bc f Z Tryz.call66 (Wk.c m ac) fun ad w ae m a f=> ?_
 have h0_0:=rd2 ae h0_0
 have h0_1:=rd2 ae h0_1
 refine l_o f (Bs (f.eval Z)) fun a f=>Ab f Z fun a f=> ?_
 refine BA 5 (fun a w=>∃af,GLe ad af∧Mem W af w (Itm.box aa 36 [v0_0,v0_1]::H)∧Fr a 41 [(0,(.agg #[v0_0,v0_1])),(1,(.pointer (some ⟨aa,0,none⟩))),(3,(.int .i64 (x0_0.length:Int))),(8,(.int .i64 (x0_0.length:Int))),(9,(.bool ab)),(10,(.bool (!ab))),(11,(.bool (!ab))),(16,(.bool ((!ab)||(decide ((16:Int)<(x0_1.length:Int))))))]) ?_ ?_
 ·rcases Bool.eq_false_or_eq_true (!ab) with ag|ag
  ·refine AB f ag fun a f=> ?_
   refine AB f ag fun a f=>AB f ag fun a f=>AB f ag fun a f=>l_o f (A3 (f.eval Z) ag (f.eval Z)) fun a f=> ?_
   exact⟨_,gr,m,f.weak ⟨Z,Z,Z,Z,Z,Z,Z,by rw[ag];rfl,trivial⟩⟩
  ·refine Az f ag ?_
   refine Bk Tryz.underlying36 Z Tryz.sizeOf27 f Z fun a f=>Az f ag ?_
   refine Ay 0 1 m AX f Z Z Z Z fun a f=>Az f ag ?_
   refine AT Tryz.underlying27 f Z Z h0_1 fun a f=>Az f ag ?_
   refine Ai f Z Z Cr fun a f=>l_o f (A2 (f.eval Z) ag (f.eval Z)) fun a f=> ?_
   exact⟨_,gr,m,f.weak ⟨Z,Z,Z,Z,Z,Z,Z,by rw[ag];rfl,trivial⟩⟩
 ·rintro a w ⟨af,ah,m,f⟩
  have h0_0:=rd2 ah h0_0
  have h0_1:=rd2 ah h0_1
  refine Aa ?_
  rcases Ae hd with⟨ai,hd⟩|⟨ai,hd⟩
  ·refine Ak f Z ai ?_
   refine Ac ?_
   refine Ad f Z fun a f=>Aa ?_
   refine Ao ?_
   have m:Mem W af w H:=Mem.drop (H':=[Itm.box aa 36 [v0_0,v0_1]]) m
   obtain rfl:=sj hd
   exact⟨[(.bool false)],⟨f.get _ _ Z,trivial⟩,f.defers,_,[],(gt ae ah),m,Z,Z⟩
  ·refine Ag f Z ai ?_
   refine Al ?_
   refine Af (Ac ?_)
   refine Ad f Z fun a f=>Aa ?_
   obtain⟨aj,ak,hd⟩:=bind_some hd
   refine AF (fun a w=>∃q_120':Unit,aj= .inl q_120'∧∃(al:GH),GLe af al∧Fr a 41 []∧Mem W al w (H)) ?_ ?_
   ·refine Aj ?_
    refine AC (fun am a w=>∃an:Int,an=am∧∃(ao:GH),GLe af ao∧Fr a 41 [(1,(.pointer (some ⟨aa,0,none⟩))),(3,(.int .i64 (x0_0.length:Int))),(4,(.int .i64 an))]∧Mem W ao w (Itm.box aa 36 [v0_0,v0_1]::H)) ak ⟨_,Z,_,gr,f.k Z,m⟩ ?_
    clear ak f m
    rintro am ap aq ar a w ⟨an,rfl,ao,au,f,m⟩
    have h0_0:=rd2 au h0_0
    have h0_1:=rd2 au h0_1
    refine Af (Ac ?_)
    refine Ab f Z fun a f=>Bk Tryz.underlying36 Z Tryz.sizeOf27 f Z fun a f=>Ay 0 1 m AX f Z Z Z Z fun a f=>AT Tryz.underlying27 f Z Z h0_1 fun a f=>Ai f Z Z AA fun a f=>Aa ?_
    rcases Ae aq with⟨av,aq⟩|⟨av,aq⟩
    ·refine Ak f Z av ?_
     refine Al ?_
     refine Af (Aj (Ac ?_))
     refine Bk Tryz.underlying36 Z Tryz.sizeOf27 f Z fun a f=>Ay 0 1 m AX f Z Z Z Z fun a f=>Ab f Z fun a f=> ?_
     obtain⟨aw,ax,aq⟩:=bind_some aq
     refine AZ T27 f Z Z Z h0_1 ax fun ay az a aA aB f=>Au m AO f Z Z aA fun a f=>AT Tryz.underlying31 f Z Z aB fun a f=>Ai f Z Z Cs fun a f=>Ab f Z fun a f=> ?_
     obtain⟨aC,aD,aq⟩:=bind_some aq
     refine BA 9 (fun a w=>∃aE,GLe ao aE∧Mem W aE w (Itm.box aa 36 [v0_0,v0_1]::H)∧Fr a 41 [(1,(.pointer (some ⟨aa,0,none⟩))),(3,(.int .i64 (x0_0.length:Int))),(4,(.int .i64 an)),(21,(.bool (decide (an<(x0_1.length:Int))))),(24,(.pointer (some ⟨aa,1,none⟩))),(25,v0_1),(26,(.int .i64 an)),(27,ay),(28,az),(29,(.int .i64 (aw.length:Int))),(30,(.bool ((aw.length:Int) !=2))),(31,(.bool ((aw.length:Int) !=2))),(40,(.bool aC))]) ?_ ?_
     ·rcases Ae aD with⟨aF,aD⟩|⟨aF,aD⟩
      ·refine AB f aF fun a f=> ?_
       refine AB f aF fun a f=>AB f aF fun a f=>AB f aF fun a f=>AB f aF fun a f=>AB f aF fun a f=>AB f aF fun a f=>AB f aF fun a f=>l_o f (A3 (f.eval Z) aF (f.eval Z)) fun a f=> ?_
       obtain rfl:=sj aD
       exact⟨_,gr,m,f.k Z⟩
      ·refine Az f aF ?_
       refine Bk Tryz.underlying36 Z Tryz.sizeOf27 f Z fun a f=>Az f aF ?_
       refine Ay 0 1 m AX f Z Z Z Z fun a f=>Az f aF ?_
       refine Ab f Z fun a f=>Az f aF ?_
       obtain⟨aG,aH,aD⟩:=bind_some aD
       refine AZ T27 f Z Z Z h0_1 aH fun aI aJ a aK aL f=>Az f aF ?_
       refine Au m AO f Z Z aK fun a f=>Az f aF ?_
       refine Ab f Z fun a f=>Az f aF ?_
       obtain⟨aM,aN,aD⟩:=bind_some aD
       refine Bc f Z Tryz.call50 (Wk.z m aL aN) fun aO w aP m a f=> ?_
       have h0_1:=rd2 aP h0_1
       have aA:=At.mono aP aA
       have aB:=rd1 aP aB
       have aK:=At.mono aP aK
       have aL:=rd1 aP aL
       have h0_0:=rd2 aP h0_0
       refine Az f aF ?_
       refine l_o f (Bs (f.eval Z)) fun a f=>l_o f (A2 (f.eval Z) aF (f.eval Z)) fun a f=> ?_
       obtain rfl:=sj aD
       exact⟨_,aP,m,f.k Z⟩
     ·rintro a w ⟨aE,aQ,m,f⟩
      have h0_1:=rd2 aQ h0_1
      have aA:=At.mono aQ aA
      have aB:=rd1 aQ aB
      have h0_0:=rd2 aQ h0_0
      refine Aa ?_
      rcases Ae aq with⟨aR,aq⟩|⟨aR,aq⟩
      ·refine Ak f Z aR ?_
       refine Ac ?_
       refine Ad f Z fun a f=>Aa ?_
       refine Ao ?_
       have m:Mem W aE w H:=Mem.drop (H':=[Itm.box aa 36 [v0_0,v0_1]]) m
       obtain rfl:=sj aq
       obtain rfl:=ar _ rfl
       obtain rfl:=sj hd
       exact⟨[(.bool false)],⟨f.get _ _ Z,trivial⟩,f.defers,_,[],(gt ae (gt ah (gt au aQ))),m,Z,Z⟩
      ·refine Ag f Z aR ?_
       refine Al ?_
       refine Ah ?_
       refine Ab f Z fun a f=>Ai f Z Z As fun a f=>Ad f Z fun a f=>Aa ?_
       obtain rfl:=sj aq
       exact⟨_,Z,_,Z,_,(gt au aQ),f.k Z,m⟩
    ·refine Ag f Z av ?_
     refine Aw Z ?_
     have m:Mem W ao w H:=Mem.drop (H':=[Itm.box aa 36 [v0_0,v0_1]]) m
     obtain rfl:=sj aq
     obtain rfl:=ar _ rfl
     exact⟨_,Z,_,au,f.weak trivial,m⟩
   ·rintro a w ⟨_,rfl,al,aS,f,m⟩
    refine Ac ?_
    refine Ad f Z fun a f=>Aa ?_
    refine Ao ?_
    obtain rfl:=sj hd
    exact⟨[(.bool true)],⟨f.get _ _ Z,trivial⟩,f.defers,_,[],(gt ae (gt ah aS)),m,Z,Z⟩
theorem Wk.b1 {W w:World}{G:GH}{H:List Itm}{x0:Int}(m:Mem W G w (H)){y:((List Int))}(hd:D.b1 x0=some y):
  Calls Tryz.prog 89 #[(.int .i64 x0)] w (Res W G H (fun G' Ho v=>∃r0:Value,∃i0:Itm,Ho=[i0]∧r0=v∧Ow (RI .i64) 2 G' i0 r0 y)):=by
 refine Aq (args:=[(.int .i64 x0)]) (N:=16) [.tmp 2] Tryz.func89 Z Z (Nat.le_of_ble_eq_true Z) Z fun a f=> ?_
 unfold D.b1 at hd
 refine Ac ?_
 refine Ad f Z fun a f=>Aa (Ac ?_)
 refine A7 (R:=(RI .i64)) (xs:=([]:List Int)) (RI.one _) m T31 f Z Z Z (by decide) (All2.nil _) fun aa ab w a m ac f=>Ad f Z fun a f=>Aa (Af (Ac ?_))
 refine Ad f Z fun a f=>Aa ?_
 obtain⟨ad,ae,hd⟩:=bind_some hd
 refine AF (fun a w=>∃af:List Int,af=ad∧∃(ag:GH) (ah:Value) (ai:Itm),GLe G ag∧Fr a 16 [(3,ah)]∧Mem W ag w (ai::H)∧Ow (RI .i64) 2 ag ai ah af) ?_ ?_
 ·refine Aj ?_
  refine AC (fun aj a w=>∃ak:List Int,∃al:Int,(ak,al)=aj∧∃(am:GH) (an:Value) (ao:Itm),GLe G am∧Fr a 16 [(0,(.int .i64 x0)),(3,an),(4,(.int .i64 al))]∧Mem W am w (ao::H)∧Ow (RI .i64) 2 am ao an ak) ae ⟨_,_,Z,_,ab,aa,gr,f.k Z,m,ac⟩ ?_
  clear ae f m
  rintro aj ap aq ar a w ⟨ak,al,rfl,am,an,ao,au,f,m,av⟩
  refine Af (Ac ?_)
  refine Ab f Z fun a f=>Ab f Z fun a f=>Ai f Z Z AA fun a f=>Aa ?_
  rcases Ae aq with⟨aw,aq⟩|⟨aw,aq⟩
  ·refine Ak f Z aw ?_
   refine Al ?_
   refine Af (Aj (Ah ?_))
   refine Ab f Z fun a f=>Ab f Z fun a f=>A7 (R:=(RI .i64)) (xs:=([al]:List Int)) (RI.one _) m T31 f Z Z Z (by decide) (All2.cons Z (All2.nil _)) fun ax ay w a m az f=> ?_
   obtain⟨aA,aB,aq⟩:=bind_some aq
   refine Bh (RI.one _) 1 m av Z T31 Z (by decide) f Z Z Z (Ow.src (j:=0) az m Z) aB fun aC aD w a m aE f=>Ad f Z fun a f=>Aa (Ah ?_)
   refine Ab f Z fun a f=>Ai f Z Z As fun a f=>Ad f Z fun a f=>Aa ?_
   have m:=m.front 1 rfl
   have m:=m.eraseAt 1
   obtain rfl:=sj aq
   exact⟨_,Z,_,_,Z,_,aD,aC,au,f.k Z,m,aE⟩
  ·refine Ag f Z aw ?_
   refine Aw Z ?_
   obtain rfl:=sj aq
   obtain rfl:=ar _ rfl
   exact⟨_,Z,_,an,ao,au,f.k Z,m,av⟩
 ·rintro a w ⟨af,rfl,ag,ah,ai,aF,f,m,aG⟩
  refine Ac ?_
  refine Ab f Z fun a f=>Ad f Z fun a f=>Aa ?_
  refine Ao ?_
  obtain rfl:=sj hd
  exact⟨[ah],⟨f.get _ _ Z,trivial⟩,f.defers,_,[ai],aF,m,_,_,Z,Z,aG⟩
theorem Wk.P0 {W w:World}{G:GH}{H:List Itm}{v0_0:Value}{v0_1:Value}{x0_0:(List (List Int))}{x0_1:(List (List Int))}{x1:Int}(m:Mem W G w (H))(h0_0:RSl (RSl (RI .i64)) G v0_0 x0_0)(h0_1:RSl (RSl (RI .i64)) G v0_1 x0_1){y:((List Int))}(hd:D.P0 x0_0 x0_1 x1=some y):
  Calls Tryz.prog 91 #[(.agg #[v0_0,v0_1]),(.int .i64 x1)] w (Res W G H (fun G' Ho v=>∃r0:Value,Ho=[]∧r0=v∧RSl (RI .i64) G' r0 y)):=by
 refine Aq (args:=[(.agg #[v0_0,v0_1]),(.int .i64 x1)]) (N:=52) [.tmp 4] Tryz.func91 Z Z (Nat.le_of_ble_eq_true Z) Z fun a f=> ?_
 unfold D.P0 at hd
 refine Ac ?_
 refine Bm (cs:=[v0_0,v0_1]) m f Z Z Z fun aa w a m f=>Ad f Z fun a f=>Aa (Ac ?_)
 refine A7 (R:=(RI .i64)) (xs:=([]:List Int)) (RI.one _) m T31 f Z Z Z (by decide) (All2.nil _) fun ab ac w a m ad f=>Ad f Z fun a f=>Aa (Af (Ac ?_))
 refine Ad f Z fun a f=>Aa ?_
 obtain⟨ae,af,m,ag⟩:=Ow.stamp (RI.mono _) ad m
 have h0_0:=rd2 af h0_0
 have h0_1:=rd2 af h0_1
 obtain⟨ah,ai,hd⟩:=bind_some hd
 refine AF (fun a w=>∃aj:List Int,aj=ah∧∃(ak:GH) (al:Value),GLe ae ak∧Fr a 52 [(5,al)]∧Mem W ak w (H)∧RSl (RI .i64) ak al aj) ?_ ?_
 ·refine Aj ?_
  refine AC (fun am a w=>∃an:List Int,∃ao:Int,(an,ao)=am∧∃(ap:GH) (aq:Value),GLe ae ap∧Fr a 52 [(1,(.int .i64 x1)),(2,(.pointer (some ⟨aa,0,none⟩))),(5,aq),(6,(.int .i64 ao))]∧Mem W ap w (Itm.box aa 36 [v0_0,v0_1]::H)∧RSl (RI .i64) ap aq an) ai ⟨_,_,Z,_,ac,gr,f.k Z,m,ag⟩ ?_
  clear ai f m
  rintro am ar au av a w ⟨an,ao,rfl,ap,aq,aw,f,m,ax⟩
  have h0_0:=rd2 aw h0_0
  have h0_1:=rd2 aw h0_1
  refine Af (Ac ?_)
  refine Ab f Z fun a f=>Bk Tryz.underlying36 Z Tryz.sizeOf27 f Z fun a f=>Ay 0 1 m AX f Z Z Z Z fun a f=>AT Tryz.underlying27 f Z Z h0_1 fun a f=>Ai f Z Z AA fun a f=>Aa ?_
  rcases Ae au with⟨ay,au⟩|⟨ay,au⟩
  ·refine Ak f Z ay ?_
   refine Al ?_
   refine Af (Aj (Af (Ac ?_)))
   refine Bk Tryz.underlying36 Z Tryz.sizeOf27 f Z fun a f=>Ay 0 1 m AX f Z Z Z Z fun a f=>Ab f Z fun a f=> ?_
   obtain⟨az,aA,au⟩:=bind_some au
   refine AZ T27 f Z Z Z h0_1 aA fun aB aC a aD aE f=>Au m AO f Z Z aD fun a f=> ?_
   obtain⟨aF,aG,au⟩:=bind_some au
   refine AZ T31 f Z Z Z aE aG fun aH aI a aJ aK f=> ?_
   subst aK
   refine Au m Pl2 f Z Z aJ fun a f=>Ab f Z fun a f=>Ai f Z Z BH fun a f=>Aa ?_
   obtain⟨aL,aM,au⟩:=bind_some au
   refine AF (fun a w=>∃aN:List Int,aN=aL∧∃(aO:GH) (aP:Value),GLe ap aO∧Fr a 52 [(1,(.int .i64 x1)),(2,(.pointer (some ⟨aa,0,none⟩))),(5,aP),(6,(.int .i64 ao))]∧Mem W aO w (Itm.box aa 36 [v0_0,v0_1]::H)∧RSl (RI .i64) aO aP aN) ?_ ?_
   ·rcases Ae aM with⟨aQ,aM⟩|⟨aQ,aM⟩
    ·refine Ak f Z aQ ?_
     refine Ah ?_
     refine Ab f Z fun a f=>Bk Tryz.underlying36 Z Tryz.sizeOf27 f Z fun a f=>Ay 0 1 m AX f Z Z Z Z fun a f=>Ab f Z fun a f=> ?_
     obtain⟨aR,aS,aM⟩:=bind_some aM
     refine AZ T27 f Z Z Z h0_1 aS fun aT aU a aV aW f=>Au m AO f Z Z aV fun a f=> ?_
     obtain⟨aX,aY,aM⟩:=bind_some aM
     refine AZ T31 f Z Z Z aW aY fun aZ a0 a a1 a2 f=> ?_
     subst a2
     refine Au m Pl2 f Z Z a1 fun a f=> ?_
     obtain⟨a3,a4,aM⟩:=bind_some aM
     refine AK f Z Tryz.call85 (Wk.h m ax a4) fun a5 a6 a7 w a8 m a9 a f=> ?_
     obtain⟨ba,rfl,rfl,bb⟩:=a9
     have ax:=rd1 a8 ax
     have h0_1:=rd2 a8 h0_1
     have aV:=At.mono a8 aV
     have aW:=rd1 a8 aW
     have a1:=At.mono a8 a1
     have h0_0:=rd2 a8 h0_0
     refine Ad f Z fun a f=>Aa ?_
     obtain rfl:=sj aM
     exact⟨_,Z,_,ba,a8,f.k Z,m,bb⟩
    ·refine Ag f Z aQ ?_
     refine Al ?_
     obtain rfl:=sj aM
     exact⟨_,Z,_,aq,gr,f.k Z,m,ax⟩
   ·rintro a w ⟨aN,rfl,aO,aP,bc,f,m,bd⟩
    have h0_0:=rd2 bc h0_0
    have h0_1:=rd2 bc h0_1
    refine Ac ?_
    refine Bk Tryz.underlying36 Z Tryz.sizeOf27 f Z fun a f=>Ay 0 1 m AX f Z Z Z Z fun a f=>Ab f Z fun a f=> ?_
    obtain⟨be,bf,au⟩:=bind_some au
    refine AZ T27 f Z Z Z h0_1 bf fun bg bh a bi bj f=>Au m AO f Z Z bi fun a f=> ?_
    obtain⟨bk,bl,au⟩:=bind_some au
    refine AZ T31 f Z Z Z bj bl fun bm bn a bo bp f=> ?_
    subst bp
    refine Au m Pl2 f Z Z bo fun a f=>Ab f Z fun a f=>Ai f Z Z BH fun a f=>Aa ?_
    rcases Ae au with⟨bq,au⟩|⟨bq,au⟩
    ·refine Ak f Z bq ?_
     refine Ah ?_
     refine Ab f Z fun a f=>Bk Tryz.underlying36 Z Tryz.sizeOf27 f Z fun a f=>Ay 0 1 m AX f Z Z Z Z fun a f=>Ab f Z fun a f=> ?_
     obtain⟨br,bs,au⟩:=bind_some au
     refine AZ T27 f Z Z Z h0_1 bs fun bt bu a bv bw f=>Au m AO f Z Z bv fun a f=> ?_
     obtain⟨bx,bz,au⟩:=bind_some au
     refine AZ T31 f Z Z Z bw bz fun bA bB a bC bD f=> ?_
     subst bD
     refine Au m Pl2 f Z Z bC fun a f=> ?_
     obtain⟨bE,bF,au⟩:=bind_some au
     refine AK f Z Tryz.call85 (Wk.h m bd bF) fun bG bH bI w bJ m bK a f=> ?_
     obtain⟨bL,rfl,rfl,bM⟩:=bK
     have bd:=rd1 bJ bd
     have h0_1:=rd2 bJ h0_1
     have bv:=At.mono bJ bv
     have bw:=rd1 bJ bw
     have bC:=At.mono bJ bC
     have h0_0:=rd2 bJ h0_0
     refine Ad f Z fun a f=>Aa (Ah ?_)
     refine Ab f Z fun a f=>Ai f Z Z As fun a f=>Ad f Z fun a f=>Aa ?_
     obtain rfl:=sj au
     exact⟨_,Z,_,_,Z,_,bL,(gt aw (gt bc bJ)),f.k Z,m,bM⟩
    ·refine Ag f Z bq ?_
     refine Al ?_
     refine Ah ?_
     refine Ab f Z fun a f=>Ai f Z Z As fun a f=>Ad f Z fun a f=>Aa ?_
     obtain rfl:=sj au
     exact⟨_,Z,_,_,Z,_,aP,(gt aw bc),f.k Z,m,bd⟩
  ·refine Ag f Z ay ?_
   refine Aw Z ?_
   have m:Mem W ap w H:=Mem.drop (H':=[Itm.box aa 36 [v0_0,v0_1]]) m
   obtain rfl:=sj au
   obtain rfl:=av _ rfl
   exact⟨_,Z,_,aq,aw,f.k Z,m,ax⟩
 ·rintro a w ⟨aj,rfl,ak,al,bN,f,m,bO⟩
  refine Ac ?_
  refine Ab f Z fun a f=>Ad f Z fun a f=>Aa ?_
  refine Ao ?_
  obtain rfl:=sj hd
  exact⟨[al],⟨f.get _ _ Z,trivial⟩,f.defers,_,[],(gt af bN),m,_,Z,Z,bO⟩
theorem Wk.B {W w:World}{G:GH}{H:List Itm}{v0_0:Value}{v0_1:Value}{v1:Value}{x0_0:(List (List Int))}{x0_1:(List (List Int))}{x1:(List Int)}(m:Mem W G w (H))(h0_0:RSl (RSl (RI .i64)) G v0_0 x0_0)(h0_1:RSl (RSl (RI .i64)) G v0_1 x0_1)(h1:RSl (RI .i64) G v1 x1){y:Int}(hd:D.B x0_0 x0_1 x1=some y):
  Calls Tryz.prog 54 #[(.agg #[v0_0,v0_1]),v1] w (Res W G H (fun _ Ho v=>Ho=[]∧v=(.int .i64 y))):=by
 refine Aq (args:=[(.agg #[v0_0,v0_1]),v1]) (N:=58) [.tmp 4] Tryz.func54 Z Z (Nat.le_of_ble_eq_true Z) Z fun a f=> ?_
 unfold D.B at hd
 refine Ac ?_
 refine Bm (cs:=[v0_0,v0_1]) m f Z Z Z fun aa w a m f=>Ad f Z fun a f=>Aa (Af (Ac ?_))
 refine Ab f Z fun a f=>AT Tryz.underlying31 f Z Z h1 fun a f=>Ai f Z Z BH fun a f=>Aa ?_
 rcases Ae hd with⟨ab,hd⟩|⟨ab,hd⟩
 ·refine Ak f Z ab ?_
  refine Ac ?_
  refine Ad f Z fun a f=>Aa ?_
  refine Ao ?_
  have m:Mem W G w H:=Mem.drop (H':=[Itm.box aa 36 [v0_0,v0_1]]) m
  obtain rfl:=sj hd
  exact⟨[(.int .i64 0)],⟨f.get _ _ Z,trivial⟩,f.defers,_,[],gr,m,Z,Z⟩
 ·refine Ag f Z ab ?_
  refine Al ?_
  refine Ac ?_
  refine Ab f Z fun a f=> ?_
  obtain⟨ac,ad,hd⟩:=bind_some hd
  refine AZ T31 f Z Z Z h1 ad fun ae af a ag ah f=> ?_
  subst ah
  refine Au m Pl2 f Z Z ag fun a f=>A7 (R:=(RI .i64)) (xs:=([ac]:List Int)) (RI.one _) m T31 f Z Z Z (by decide) (All2.cons Z (All2.nil _)) fun ai aj w a m ak f=>Ad f Z fun a f=>Aa (Af (Ac ?_))
  refine Ad f Z fun a f=>Aa ?_
  obtain⟨al,am,hd⟩:=bind_some hd
  refine AF (fun a w=>∃an:List Int,an=al∧∃(ao:GH) (ap:Value) (aq:Itm),GLe G ao∧Fr a 58 [(5,ap)]∧Mem W ao w (aq::H)∧Ow (RI .i64) 2 ao aq ap an) ?_ ?_
  ·refine Aj ?_
   have m:=m.front 1 rfl
   refine AC (fun ar a w=>∃au:List Int,∃av:Int,(au,av)=ar∧∃(aw:GH) (ax:Value) (ay:Itm),GLe G aw∧Fr a 58 [(1,v1),(2,(.pointer (some ⟨aa,0,none⟩))),(5,ax),(6,(.int .i64 av))]∧Mem W aw w (Itm.box aa 36 [v0_0,v0_1]::ay::H)∧Ow (RI .i64) 2 aw ay ax au) am ⟨_,_,Z,_,aj,ai,gr,f.k Z,m,ak⟩ ?_
   clear am f m
   rintro ar az aA aB a w ⟨au,av,rfl,aw,ax,ay,aC,f,m,aD⟩
   have h1:=rd1 aC h1
   have h0_0:=rd2 aC h0_0
   have h0_1:=rd2 aC h0_1
   refine Af (Ac ?_)
   refine Ab f Z fun a f=>Ab f Z fun a f=>Bw 1 m aD Z Tryz.underlying31 f Z Z fun a f=>Ai f Z Z AA fun a f=>Aa ?_
   rcases Ae aA with⟨aE,aA⟩|⟨aE,aA⟩
   ·refine Ak f Z aE ?_
    refine Al ?_
    refine Af (Aj (Af ?_))
    refine AY 7 AI (by kernel_rfl) m ?_
    refine B6 (i:=0) (ds:=[v0_0,v0_1]) 7 0 BG Z Z Z Z (by kernel_rfl) Z f Z Z Z fun a f=>Am 1 7 Z f Z fun a f=>Am 2 7 Z f Z fun a f=> ?_
    obtain⟨aF,aG,aA⟩:=bind_some aA
    refine AW 3 7 1 m aD T31 aG Z f Z Z fun aH a aI f=>Bg 4 7 1 aD Pl2 aI aG Z f Z fun aJ a aK f=> ?_
    subst aK
    refine Br (i:=5) Z (by kernel_rfl) Z fun aL w aM m aN aN=> ?_
    have h1:=rd1 aM h1
    have h0_0:=rd2 aM h0_0
    have h0_1:=rd2 aM h0_1
    have aD:=od1 aM aD
    obtain⟨aO,aP,aA⟩:=bind_some aA
    refine AK f Z Tryz.call91 (Wk.P0 m h0_0 h0_1 aP) fun aQ aR aS w aT m aU a f=> ?_
    obtain⟨aV,rfl,rfl,aW⟩:=aU
    have h1:=rd1 aT h1
    have h0_0:=rd2 aT h0_0
    have h0_1:=rd2 aT h0_1
    have aD:=od1 aT aD
    refine Aa ?_
    refine aN aR [] _ _ aT m ?_
    refine q_p 6 7 Z f (fun _=>A5 (f.eval Z)) fun a f=>AU fun aX w aY m=> ?_
    have h1:=rd1 aY h1
    have aW:=rd1 aY aW
    have h0_0:=rd2 aY h0_0
    have h0_1:=rd2 aY h0_1
    have aD:=od1 aY aD
    refine Aa (Ac ?_)
    refine Ad f Z fun a f=>Aa ?_
    obtain⟨aZ,a0,aA⟩:=bind_some aA
    refine AF (fun a w=>∃a1:List Int,a1=aZ∧∃(a2:GH) (a3:Value) (a4:Itm),GLe aX a2∧Fr a 58 [(1,v1),(2,(.pointer (some ⟨aa,0,none⟩))),(5,a3),(6,(.int .i64 av))]∧Mem W a2 w (Itm.box aa 36 [v0_0,v0_1]::a4::H)∧Ow (RI .i64) 2 a2 a4 a3 a1) ?_ ?_
    ·refine Aj ?_
     refine AC (fun a5 a w=>∃a6:List Int,∃a7:Int,(a6,a7)=a5∧∃(a8:GH) (a9:Value) (ba:Itm),GLe aX a8∧Fr a 58 [(1,v1),(2,(.pointer (some ⟨aa,0,none⟩))),(5,a9),(6,(.int .i64 av)),(7,aV),(8,(.int .i64 a7))]∧Mem W a8 w (Itm.box aa 36 [v0_0,v0_1]::ba::H)∧Ow (RI .i64) 2 a8 ba a9 a6) a0 ⟨_,_,Z,_,ax,ay,gr,f.k Z,m,aD⟩ ?_
     clear a0 f m
     rintro a5 bb bc bd a w ⟨a6,a7,rfl,a8,a9,ba,be,f,m,bf⟩
     have h1:=rd1 be h1
     have aW:=rd1 be aW
     have h0_0:=rd2 be h0_0
     have h0_1:=rd2 be h0_1
     refine Af (Ac ?_)
     refine Ab f Z fun a f=>Ab f Z fun a f=>AT Tryz.underlying31 f Z Z aW fun a f=>Ai f Z Z AA fun a f=>Aa ?_
     rcases Ae bc with⟨bg,bc⟩|⟨bg,bc⟩
     ·refine Ak f Z bg ?_
      refine Al ?_
      refine Af (Aj (Ac ?_))
      refine Ab f Z fun a f=>Ab f Z fun a f=>Ab f Z fun a f=> ?_
      obtain⟨bh,bi,bc⟩:=bind_some bc
      refine AZ T31 f Z Z Z aW bi fun bj bk a bl bm f=> ?_
      subst bm
      refine Au m Pl2 f Z Z bl fun a f=> ?_
      obtain⟨bn,bo,bc⟩:=bind_some bc
      refine Bc f Z Tryz.call84 (Wk.f m h1 bo) fun bp w bq m a f=> ?_
      have h1:=rd1 bq h1
      have aW:=rd1 bq aW
      have bl:=At.mono bq bl
      have h0_0:=rd2 bq h0_0
      have h0_1:=rd2 bq h0_1
      have bf:=od1 bq bf
      refine Ab f Z fun a f=> ?_
      obtain⟨br,bs,bc⟩:=bind_some bc
      refine BA 8 (fun a w=>∃bt,GLe bp bt∧Mem W bt w (Itm.box aa 36 [v0_0,v0_1]::ba::H)∧Fr a 58 [(1,v1),(2,(.pointer (some ⟨aa,0,none⟩))),(5,a9),(6,(.int .i64 av)),(7,aV),(8,(.int .i64 a7)),(31,(.bool (decide (a7<(aO.length:Int))))),(34,v1),(35,aV),(36,(.int .i64 a7)),(37,bj),(38,(.int .i64 bh)),(39,(.bool bn)),(40,(.bool bn)),(48,(.bool br))]) ?_ ?_
      ·rcases Ae bs with⟨bu,bs⟩|⟨bu,bs⟩
       ·refine Az f bu ?_
        refine Ab f Z fun a f=>Az f bu ?_
        refine Ab f Z fun a f=>Az f bu ?_
        refine Ab f Z fun a f=>Az f bu ?_
        obtain⟨bv,bw,bs⟩:=bind_some bs
        refine AZ T31 f Z Z Z aW bw fun bx bz a bA bB f=> ?_
        subst bB
        refine Az f bu ?_
        refine Au m Pl2 f Z Z bA fun a f=>Az f bu ?_
        obtain⟨bC,bD,bs⟩:=bind_some bs
        refine AK f Z Tryz.call84 (Ow.lendCall (RI.mono _) 1 bf m Z (fun bE bF m bG=>Wk.f m bG bD) (fun _ _ _ _ h=>h)) fun bH bI bJ w bK m bL a f=> ?_
        obtain⟨rfl,rfl⟩:=bL
        have h1:=rd1 bK h1
        have aW:=rd1 bK aW
        have bl:=At.mono bK bl
        have bA:=At.mono bK bA
        have h0_0:=rd2 bK h0_0
        have h0_1:=rd2 bK h0_1
        have bf:=od1 bK bf
        refine Az f bu ?_
        refine l_o f (Bs (f.eval Z)) fun a f=>l_o f (A3 (f.eval Z) bu (f.eval Z)) fun a f=> ?_
        obtain rfl:=sj bs
        exact⟨_,bK,m,f.k Z⟩
       ·refine AB f bu fun a f=> ?_
        refine AB f bu fun a f=>AB f bu fun a f=>AB f bu fun a f=>AB f bu fun a f=>AB f bu fun a f=>AB f bu fun a f=>l_o f (A2 (f.eval Z) bu (f.eval Z)) fun a f=> ?_
        obtain rfl:=sj bs
        exact⟨_,gr,m,f.k Z⟩
      ·rintro a w ⟨bt,bM,m,f⟩
       have h1:=rd1 bM h1
       have aW:=rd1 bM aW
       have bl:=At.mono bM bl
       have h0_0:=rd2 bM h0_0
       have h0_1:=rd2 bM h0_1
       have bf:=od1 bM bf
       refine Aa ?_
       rcases Ae bc with⟨bN,bc⟩|⟨bN,bc⟩
       ·refine Ak f Z bN ?_
        refine Ah ?_
        refine Ab f Z fun a f=>Ab f Z fun a f=>Ab f Z fun a f=> ?_
        obtain⟨bO,bP,bc⟩:=bind_some bc
        refine AZ T31 f Z Z Z aW bP fun bQ bR a bS bT f=> ?_
        subst bT
        refine Au m Pl2 f Z Z bS fun a f=>A7 (R:=(RI .i64)) (xs:=([bO]:List Int)) (RI.one _) m T31 f Z Z Z (by decide) (All2.cons Z (All2.nil _)) fun bU bV w a m bW f=> ?_
        obtain⟨bX,bY,bc⟩:=bind_some bc
        refine Bh (RI.one _) 2 m bf Z T31 Z (by decide) f Z Z Z (Ow.src (j:=0) bW m Z) bY fun bZ b0 w a m b1 f=>Ad f Z fun a f=>Aa (Ah ?_)
        refine Ab f Z fun a f=>Ai f Z Z As fun a f=>Ad f Z fun a f=>Aa ?_
        have m:=m.front 2 rfl
        have m:=m.front 2 rfl
        have m:=m.eraseAt 2
        obtain rfl:=sj bc
        exact⟨_,Z,_,_,Z,_,b0,bZ,(gt be (gt bq bM)),f.k Z,m,b1⟩
       ·refine Ag f Z bN ?_
        refine Al ?_
        refine Ah ?_
        refine Ab f Z fun a f=>Ai f Z Z As fun a f=>Ad f Z fun a f=>Aa ?_
        obtain rfl:=sj bc
        exact⟨_,Z,_,_,Z,_,a9,ba,(gt be (gt bq bM)),f.k Z,m,bf⟩
     ·refine Ag f Z bg ?_
      refine Aw Z ?_
      obtain rfl:=sj bc
      obtain rfl:=bd _ rfl
      exact⟨_,Z,_,a9,ba,be,f.k Z,m,bf⟩
    ·rintro a w ⟨a1,rfl,a2,a3,a4,b2,f,m,b3⟩
     have h1:=rd1 b2 h1
     have h0_0:=rd2 b2 h0_0
     have h0_1:=rd2 b2 h0_1
     refine Ah ?_
     refine Ab f Z fun a f=>Ai f Z Z As fun a f=>Ad f Z fun a f=>Aa ?_
     obtain rfl:=sj aA
     exact⟨_,Z,_,_,Z,_,a3,a4,(gt aC (gt aM (gt aT (gt aY b2)))),f.k Z,m,b3⟩
   ·refine Ag f Z aE ?_
    refine Aw Z ?_
    have m:=m.front 1 rfl
    have m:=m.eraseAt 1
    obtain rfl:=sj aA
    obtain rfl:=aB _ rfl
    exact⟨_,Z,_,ax,ay,aC,f.k Z,m,aD⟩
  ·rintro a w ⟨an,rfl,ao,ap,aq,b4,f,m,b5⟩
   refine Ac ?_
   refine Ab f Z fun a f=>Bw 0 m b5 Z Tryz.underlying31 f Z Z fun a f=>Ad f Z fun a f=>Aa ?_
   refine Ao ?_
   have m:Mem W ao w H:=Mem.drop (H':=[aq]) m
   obtain rfl:=sj hd
   exact⟨[(.int .i64 (an.length:Int))],⟨f.get _ _ Z,trivial⟩,f.defers,_,[],b4,m,Z,Z⟩
theorem Wk.j1 {W w:World}{G:GH}{H:List Itm}{v0_0:Value}{v0_1:Value}{x0_0:(List (List Int))}{x0_1:(List (List Int))}(m:Mem W G w (H))(h0_0:RSl (RSl (RI .i64)) G v0_0 x0_0)(h0_1:RSl (RSl (RI .i64)) G v0_1 x0_1){y:Bool}(hd:D.j1 x0_0 x0_1=some y):
  Calls Tryz.prog 49 #[(.agg #[v0_0,v0_1])] w (Res W G H (fun _ Ho v=>Ho=[]∧v=(.bool y))):=by
 refine Aq (args:=[(.agg #[v0_0,v0_1])]) (N:=27) [.tmp 2] Tryz.func49 Z Z (Nat.le_of_ble_eq_true Z) Z fun a f=> ?_
 unfold D.j1 at hd
 refine Ac ?_
 refine Bm (cs:=[v0_0,v0_1]) m f Z Z Z fun aa w a m f=>Ad f Z fun a f=>Aa (Af ?_)
 refine AY 25 AI (by kernel_rfl) m ?_
 refine B6 (i:=0) (ds:=[v0_0,v0_1]) 25 0 BG Z Z Z Z (by kernel_rfl) Z f Z Z Z fun a f=> ?_
 obtain⟨ab,ac,hd⟩:=bind_some hd
 refine Ca (i:=1) 25 Z (by kernel_rfl) Z f Z Z Z Tryz.call88 (fun _ _ w ad m=>Wk.y0 m (rd2 ad h0_0) (rd2 ad h0_1) ac) fun a f=>Am 2 25 Z f Z fun a f=>CY (fuel':=13) (listed':= #[true,true,true,true,true,true,true,true,true,true,true,true,false,false,false,false,false,false,false,false,false,false,false,false,false]) (fun a=>Fr a 27 [(0,(.agg #[v0_0,v0_1])),(1,(.pointer (some ⟨aa,0,none⟩))),(3,(.agg #[v0_0,v0_1])),(4,(.bool ab)),(5,(.bool ab)),(14,(.bool (ab&&((x0_1.length:Int)==(IntKind.i64.wrap ((x0_0.length:Int)-1))))))]) ?_ ?_
 ·intro a f
  refine Am 12 25 Z f Z fun a f=> ?_
  rcases Ae hd with⟨ae,hd⟩|⟨ae,hd⟩
  ·refine B6 (i:=13) (ds:=[v0_0,v0_1]) 25 0 BG Z Z Z Z (by kernel_rfl) Z f (Bz f Z Z Z ae) Z Z fun a f=> ?_
   refine BT (hw:=wo f ae) 14 25 Tryz.underlying36 Z Tryz.sizeOf27 Z f Z fun a f=>BD (hw:=wo f ae) 15 25 0 AX Z Z Z f Z fun a f=>q_len (i:=16) 25 Tryz.underlying27 h0_0 Z (by kernel_rfl) Z f (Bz f Z Z Z ae) Z Z fun a f=>BT (hw:=wo f ae) 19 25 Tryz.underlying36 Z Tryz.sizeOf27 Z f Z fun a f=>BD (hw:=wo f ae) 20 25 0 AX Z Z Z f Z fun a f=>q_len (i:=21) 25 Tryz.underlying27 h0_0 Z (by kernel_rfl) Z f (Bz f Z Z Z ae) Z Z fun a f=>Br (i:=17) Z (by kernel_rfl) Z fun af w ag m ah ah=> ?_
   have h0_0:=rd2 ag h0_0
   have h0_1:=rd2 ag h0_1
   refine Az f ae ?_
   obtain⟨ai,aj,hd⟩:=bind_some hd
   refine AK f Z Tryz.call89 (Wk.b1 m aj) fun ak al am w an m ao a f=> ?_
   obtain⟨ap,aq,rfl,rfl,ar⟩:=ao
   have h0_0:=rd2 an h0_0
   have h0_1:=rd2 an h0_1
   refine Aa ?_
   refine ah al [aq] _ _ an m ?_
   refine Br (i:=18) Z (by kernel_rfl) Z fun au w av m aw aw=> ?_
   have h0_0:=rd2 av h0_0
   have h0_1:=rd2 av h0_1
   have ar:=od1 av ar
   refine Az f ae ?_
   obtain⟨ax,ay,hd⟩:=bind_some hd
   refine AK f Z Tryz.call54 (Ow.lendCall (RI.mono _) 0 ar m Z (fun az aA m aB=>Wk.B m (rd2 aA h0_0) (rd2 aA h0_1) aB ay) (fun _ _ _ _ h=>h)) fun aC aD aE w aF m aG a f=> ?_
   obtain⟨rfl,rfl⟩:=aG
   have h0_0:=rd2 aF h0_0
   have h0_1:=rd2 aF h0_1
   have ar:=od1 aF ar
   refine Aa ?_
   refine aw aD [aq] _ _ aF m ?_
   refine q_p (hw:=wo f ae) 22 25 Z f (fun _=>AL (f.eval Z) (f.eval Z) BH) fun a f=>q_p 23 25 Z f (fun _=>A3 (f.eval Z) ae (f.eval Z)) fun a f=>q_p 24 25 Z f (fun _=>A5 (f.eval Z)) fun a f=>AU fun aH w aI m=> ?_
   have h0_0:=rd2 aI h0_0
   have h0_1:=rd2 aI h0_1
   have ar:=od1 aI ar
   refine Aa ?_
   refine Ao ?_
   have m:Mem W aH w H:=Mem.drop (H':=[aq,Itm.box aa 36 [v0_0,v0_1]]) m
   obtain rfl:=sj hd
   exact⟨[(.bool (ax==(x0_0.length:Int)))],⟨f.get _ _ Z,trivial⟩,f.defers,_,[],(gt ag (gt an (gt av (gt aF aI)))),m,Z,Z⟩
  ·refine Ax 13 25 Z f ae fun a f=> ?_
   refine Ax 14 25 Z f ae fun a f=>Ax 15 25 Z f ae fun a f=>Ax 16 25 Z f ae fun a f=>Ax 17 25 Z f ae fun a f=>Ax 18 25 Z f ae fun a f=>Ax 19 25 Z f ae fun a f=>Ax 20 25 Z f ae fun a f=>Ax 21 25 Z f ae fun a f=>Ax 22 25 Z f ae fun a f=>q_p 23 25 Z f (fun _=>A2 (f.eval Z) ae (f.eval Z)) fun a f=>q_p 24 25 Z f (fun _=>A5 (f.eval Z)) fun a f=>AU fun aJ w aK m=> ?_
   have h0_0:=rd2 aK h0_0
   have h0_1:=rd2 aK h0_1
   refine Aa ?_
   refine Ao ?_
   have m:Mem W aJ w H:=Mem.drop (H':=[Itm.box aa 36 [v0_0,v0_1]]) m
   obtain rfl:=sj hd
   exact⟨[(.bool false)],⟨f.get _ _ Z,trivial⟩,f.defers,_,[],aK,m,Z,Z⟩
 ·intro aL
  rcases Bool.eq_false_or_eq_true ab with aM|aM
  ·refine BT (hw:=wo f aM) 3 25 Tryz.underlying36 Z Tryz.sizeOf27 Z f Z fun a f=> ?_
   refine BD (hw:=wo f aM) 4 25 0 AX Z Z Z f Z fun a f=>q_len (i:=5) 25 Tryz.underlying27 h0_1 Z (by kernel_rfl) Z f (Bz f Z Z Z aM) Z Z fun a f=>BT (hw:=wo f aM) 6 25 Tryz.underlying36 Z Tryz.sizeOf27 Z f Z fun a f=>BD (hw:=wo f aM) 7 25 0 AX Z Z Z f Z fun a f=>q_len (i:=8) 25 Tryz.underlying27 h0_0 Z (by kernel_rfl) Z f (Bz f Z Z Z aM) Z Z fun a f=>q_p (hw:=wo f aM) 9 25 Z f (fun _=>AL (f.eval Z) (f.eval Z) A8) fun a f=>q_p (hw:=wo f aM) 10 25 Z f (fun _=>AL (f.eval Z) (f.eval Z) BH) fun a f=>q_p 11 25 Z f (fun _=>A3 (f.eval Z) aM (f.eval Z)) fun a f=> ?_
   exact aL _ (f.weak ⟨Z,Z,Z,Z,Z,by rw[aM];rfl,trivial⟩)
  ·refine Ax 3 25 Z f aM fun a f=> ?_
   refine Ax 4 25 Z f aM fun a f=>Ax 5 25 Z f aM fun a f=>Ax 6 25 Z f aM fun a f=>Ax 7 25 Z f aM fun a f=>Ax 8 25 Z f aM fun a f=>Ax 9 25 Z f aM fun a f=>Ax 10 25 Z f aM fun a f=>q_p 11 25 Z f (fun _=>A2 (f.eval Z) aM (f.eval Z)) fun a f=> ?_
   exact aL _ (f.weak ⟨Z,Z,Z,Z,Z,by rw[aM];rfl,trivial⟩)
theorem Wk.i0 {W w:World}{G:GH}{H:List Itm}{v0_0:Value}{x0_0:(List (List Int))}(m:Mem W G w (H))(h0_0:RSl (RSl (RI .i64)) G v0_0 x0_0){y:((List (List Int)))}(hd:D.i0 x0_0=some y):
  Calls Tryz.prog 51 #[(.agg #[v0_0])] w (Res W G H (fun G' Ho v=>∃r0:Value,∃i0:Itm,Ho=[i0]∧r0=v∧Ow (RSl (RI .i64)) 31 G' i0 r0 y)):=by
 refine Aq (args:=[(.agg #[v0_0])]) (N:=47) [.tmp 2] Tryz.func51 Z Z (Nat.le_of_ble_eq_true Z) Z fun a f=> ?_
 unfold D.i0 at hd
 refine Ac ?_
 refine Bm (cs:=[v0_0]) m f Z Z Z fun aa w a m f=>Ad f Z fun a f=>Aa (Ac ?_)
 refine A7 (R:=(RSl (RI .i64))) (xs:=([]:List (List Int))) (RSl.one _) m T27 f Z Z Z (by decide) (All2.nil _) fun ab ac w a m ad f=>Ad f Z fun a f=>Aa (Af (Ac ?_))
 refine Ad f Z fun a f=>Aa ?_
 obtain⟨ae,af,hd⟩:=bind_some hd
 refine AF (fun a w=>∃ag:List (List Int),ag=ae∧∃(ah:GH) (ai:Value) (aj:Itm),GLe G ah∧Fr a 47 [(3,ai)]∧Mem W ah w (aj::H)∧Ow (RSl (RI .i64)) 31 ah aj ai ag) ?_ ?_
 ·refine Aj ?_
  have m:=m.front 1 rfl
  refine AC (fun ak a w=>∃al:List (List Int),∃am:Int,(al,am)=ak∧∃(an:GH) (ao:Value) (ap:Itm),GLe G an∧Fr a 47 [(1,(.pointer (some ⟨aa,0,none⟩))),(3,ao),(4,(.int .i64 am))]∧Mem W an w (Itm.box aa 29 [v0_0]::ap::H)∧Ow (RSl (RI .i64)) 31 an ap ao al) af ⟨_,_,Z,_,ac,ab,gr,f.k Z,m,ad⟩ ?_
  clear af f m
  rintro ak aq ar au a w ⟨al,am,rfl,an,ao,ap,av,f,m,aw⟩
  have h0_0:=rd2 av h0_0
  refine Af (Ac ?_)
  refine Ab f Z fun a f=>AE 0 0 (ds:=[v0_0]) m Bo f Z Z Z Z Z fun a f=> ?_
  obtain⟨ax,ay,ar⟩:=bind_some ar
  refine Bc f Z Tryz.call42 (Wk.a m h0_0 ay) fun az w aA m a f=> ?_
  have h0_0:=rd2 aA h0_0
  have aw:=Ow.mono (RSl.mono (RI.mono _)) aA aw
  refine Ai f Z Z AA fun a f=>Aa ?_
  rcases Ae ar with⟨aB,ar⟩|⟨aB,ar⟩
  ·refine Ak f Z aB ?_
   refine Al ?_
   refine Af (Aj (Ac ?_))
   refine Ad f Z fun a f=>Aa ?_
   obtain⟨aC,aD,ar⟩:=bind_some ar
   refine AF (fun a w=>∃aE:List (List Int),aE=aC∧∃(aF:GH) (aG:Value) (aH:Itm),GLe az aF∧Fr a 47 [(1,(.pointer (some ⟨aa,0,none⟩))),(3,aG),(4,(.int .i64 am))]∧Mem W aF w (Itm.box aa 29 [v0_0]::aH::H)∧Ow (RSl (RI .i64)) 31 aF aH aG aE) ?_ ?_
   ·refine Aj ?_
    refine AC (fun aI a w=>∃aJ:List (List Int),∃aK:Int,(aJ,aK)=aI∧∃(aL:GH) (aM:Value) (aN:Itm),GLe az aL∧Fr a 47 [(1,(.pointer (some ⟨aa,0,none⟩))),(3,aM),(4,(.int .i64 am)),(5,(.int .i64 aK))]∧Mem W aL w (Itm.box aa 29 [v0_0]::aN::H)∧Ow (RSl (RI .i64)) 31 aL aN aM aJ) aD ⟨_,_,Z,_,ao,ap,gr,f.k Z,m,aw⟩ ?_
    clear aD f m
    rintro aI aO aP aQ a w ⟨aJ,aK,rfl,aL,aM,aN,aR,f,m,aS⟩
    have h0_0:=rd2 aR h0_0
    refine Af (Ac ?_)
    refine Ab f Z fun a f=>Bk Tryz.underlying29 Z Tryz.sizeOf27 f Z fun a f=>Ay 0 0 m AX f Z Z Z Z fun a f=>Ab f Z fun a f=> ?_
    obtain⟨aT,aU,aP⟩:=bind_some aP
    refine AZ T27 f Z Z Z h0_0 aU fun aV aW a aX aY f=>Au m AO f Z Z aX fun a f=>AT Tryz.underlying31 f Z Z aY fun a f=>Ai f Z Z AA fun a f=>Aa ?_
    rcases Ae aP with⟨aZ,aP⟩|⟨aZ,aP⟩
    ·refine Ak f Z aZ ?_
     refine Al ?_
     refine Af (Aj (Ac ?_))
     refine Bk Tryz.underlying29 Z Tryz.sizeOf27 f Z fun a f=>Ay 0 0 m AX f Z Z Z Z fun a f=>Ab f Z fun a f=> ?_
     obtain⟨a0,a1,aP⟩:=bind_some aP
     refine AZ T27 f Z Z Z h0_0 a1 fun a2 a3 a a4 a5 f=>Au m AO f Z Z a4 fun a f=>Ab f Z fun a f=> ?_
     obtain⟨a6,a7,aP⟩:=bind_some aP
     refine AZ T31 f Z Z Z a5 a7 fun a8 a9 a ba bb f=> ?_
     subst bb
     refine Au m Pl2 f Z Z ba fun a f=>Ab f Z fun a f=>Ai f Z Z Cr fun a f=>Aa ?_
     rcases Ae aP with⟨bc,aP⟩|⟨bc,aP⟩
     ·refine Ak f Z bc ?_
      refine Ah ?_
      refine Ab f Z fun a f=>Ab f Z fun a f=>Bk Tryz.underlying29 Z Tryz.sizeOf27 f Z fun a f=>Ay 0 0 m AX f Z Z Z Z fun a f=>Ab f Z fun a f=> ?_
      obtain⟨bd,be,aP⟩:=bind_some aP
      refine AZ T27 f Z Z Z h0_0 be fun bf bg a bh bi f=>Au m AO f Z Z bh fun a f=>Ab f Z fun a f=> ?_
      obtain⟨bj,bk,aP⟩:=bind_some aP
      refine AZ T31 f Z Z Z bi bk fun bl bm a bn bo f=> ?_
      subst bo
      refine Au m Pl2 f Z Z bn fun a f=>A7 (R:=(RI .i64)) (xs:=([am,bj]:List Int)) (RI.one _) m T31 f Z Z Z (by decide) (All2.cons Z (All2.cons Z (All2.nil _))) fun bp bq w a m br f=> ?_
      obtain⟨bs,bt,m,bu⟩:=Ow.stamp (RI.mono _) br m
      have h0_0:=rd2 bt h0_0
      have bh:=At.mono bt bh
      have bi:=rd1 bt bi
      have bn:=At.mono bt bn
      have aS:=Ow.mono (RSl.mono (RI.mono _)) bt aS
      refine A7 (R:=(RSl (RI .i64))) (xs:=([([am,bj]:List Int)]:List (List Int))) (RSl.one _) m T27 f Z Z Z (by decide) (All2.cons bu (All2.nil _)) fun bv bw w a m bx f=> ?_
      obtain⟨bz,bA,aP⟩:=bind_some aP
      refine Bh (RSl.one _) 2 m aS Z T27 Z (by decide) f Z Z Z (Ow.src (j:=0) bx m Z) bA fun bB bC w a m bD f=>Ad f Z fun a f=>Aa (Ah ?_)
      refine Ab f Z fun a f=>Ai f Z Z As fun a f=>Ad f Z fun a f=>Aa ?_
      have m:=m.front 2 rfl
      have m:=m.front 2 rfl
      have m:=m.eraseAt 2
      obtain rfl:=sj aP
      exact⟨_,Z,_,_,Z,_,bC,bB,(gt aR bt),f.k Z,m,bD⟩
     ·refine Ag f Z bc ?_
      refine Al ?_
      refine Ah ?_
      refine Ab f Z fun a f=>Ai f Z Z As fun a f=>Ad f Z fun a f=>Aa ?_
      obtain rfl:=sj aP
      exact⟨_,Z,_,_,Z,_,aM,aN,aR,f.k Z,m,aS⟩
    ·refine Ag f Z aZ ?_
     refine Aw Z ?_
     obtain rfl:=sj aP
     obtain rfl:=aQ _ rfl
     exact⟨_,Z,_,aM,aN,aR,f.k Z,m,aS⟩
   ·rintro a w ⟨aE,rfl,aF,aG,aH,bE,f,m,bF⟩
    have h0_0:=rd2 bE h0_0
    refine Ah ?_
    refine Ab f Z fun a f=>Ai f Z Z As fun a f=>Ad f Z fun a f=>Aa ?_
    obtain rfl:=sj ar
    exact⟨_,Z,_,_,Z,_,aG,aH,(gt av (gt aA bE)),f.k Z,m,bF⟩
  ·refine Ag f Z aB ?_
   refine Aw Z ?_
   have m:=m.front 1 rfl
   have m:=m.eraseAt 1
   obtain rfl:=sj ar
   obtain rfl:=au _ rfl
   exact⟨_,Z,_,ao,ap,(gt av aA),f.k Z,m,aw⟩
 ·rintro a w ⟨ag,rfl,ah,ai,aj,bG,f,m,bH⟩
  refine Ac ?_
  refine Ab f Z fun a f=>Ad f Z fun a f=>Aa ?_
  refine Ao ?_
  obtain rfl:=sj hd
  exact⟨[ai],⟨f.get _ _ Z,trivial⟩,f.defers,_,[aj],bG,m,_,_,Z,Z,bH⟩
theorem Wk.X0 {W w:World}{G:GH}{H:List Itm}{v0:Value}{v1:Value}{x0:(List Int)}{x1:(List Int)}(m:Mem W G w (H))(h0:RSl (RI .i64) G v0 x0)(h1:RSl (RI .i64) G v1 x1){y:((List Int))}(hd:D.X0 x0 x1=some y):
  Calls Tryz.prog 118 #[v0,v1] w (Res W G H (fun G' Ho v=>∃r0:Value,∃i0:Itm,Ho=[i0]∧r0=v∧Ow (RI .i64) 2 G' i0 r0 y)):=by
 refine Aq (args:=[v0,v1]) (N:=28) [.tmp 4] Tryz.func118 Z Z (Nat.le_of_ble_eq_true Z) Z fun a f=> ?_
 unfold D.X0 at hd
 refine Ac ?_
 refine Ad f Z fun a f=>Aa (Ac ?_)
 refine A7 (R:=(RI .i64)) (xs:=([]:List Int)) (RI.one _) m T31 f Z Z Z (by decide) (All2.nil _) fun aa ab w a m ac f=>Ad f Z fun a f=>Aa (Af (Ac ?_))
 refine Ad f Z fun a f=>Aa ?_
 obtain⟨ad,ae,hd⟩:=bind_some hd
 refine AF (fun a w=>∃af:List Int,af=ad∧∃(ag:GH) (ah:Value) (ai:Itm),GLe G ag∧Fr a 28 [(5,ah)]∧Mem W ag w (ai::H)∧Ow (RI .i64) 2 ag ai ah af) ?_ ?_
 ·refine Aj ?_
  refine AC (fun aj a w=>∃ak:List Int,∃al:Int,(ak,al)=aj∧∃(am:GH) (an:Value) (ao:Itm),GLe G am∧Fr a 28 [(0,v0),(1,v1),(5,an),(6,(.int .i64 al))]∧Mem W am w (ao::H)∧Ow (RI .i64) 2 am ao an ak) ae ⟨_,_,Z,_,ab,aa,gr,f.k Z,m,ac⟩ ?_
  clear ae f m
  rintro aj ap aq ar a w ⟨ak,al,rfl,am,an,ao,au,f,m,av⟩
  have h0:=rd1 au h0
  have h1:=rd1 au h1
  refine Af (Ac ?_)
  refine Ab f Z fun a f=>Ab f Z fun a f=>AT Tryz.underlying31 f Z Z h0 fun a f=>Ai f Z Z AA fun a f=>Aa ?_
  rcases Ae aq with⟨aw,aq⟩|⟨aw,aq⟩
  ·refine Ak f Z aw ?_
   refine Al ?_
   refine Af (Aj (Ac ?_))
   refine Ab f Z fun a f=>Ab f Z fun a f=>Ab f Z fun a f=> ?_
   obtain⟨ax,ay,aq⟩:=bind_some aq
   refine AZ T31 f Z Z Z h0 ay fun az aA a aB aC f=> ?_
   subst aC
   refine Au m Pl2 f Z Z aB fun a f=> ?_
   obtain⟨aD,aE,aq⟩:=bind_some aq
   refine Bc f Z Tryz.call84 (Wk.f m h1 aE) fun aF w aG m a f=> ?_
   have h0:=rd1 aG h0
   have h1:=rd1 aG h1
   have aB:=At.mono aG aB
   have av:=od1 aG av
   refine Aa ?_
   rcases Ae aq with⟨aH,aq⟩|⟨aH,aq⟩
   ·refine Ak f Z aH ?_
    refine Ah ?_
    refine Ab f Z fun a f=>Ab f Z fun a f=>Ab f Z fun a f=> ?_
    obtain⟨aI,aJ,aq⟩:=bind_some aq
    refine AZ T31 f Z Z Z h0 aJ fun aK aL a aM aN f=> ?_
    subst aN
    refine Au m Pl2 f Z Z aM fun a f=>A7 (R:=(RI .i64)) (xs:=([aI]:List Int)) (RI.one _) m T31 f Z Z Z (by decide) (All2.cons Z (All2.nil _)) fun aO aP w a m aQ f=> ?_
    obtain⟨aR,aS,aq⟩:=bind_some aq
    refine Bh (RI.one _) 1 m av Z T31 Z (by decide) f Z Z Z (Ow.src (j:=0) aQ m Z) aS fun aT aU w a m aV f=>Ad f Z fun a f=>Aa (Ah ?_)
    refine Ab f Z fun a f=>Ai f Z Z As fun a f=>Ad f Z fun a f=>Aa ?_
    have m:=m.front 1 rfl
    have m:=m.eraseAt 1
    obtain rfl:=sj aq
    exact⟨_,Z,_,_,Z,_,aU,aT,(gt au aG),f.k Z,m,aV⟩
   ·refine Ag f Z aH ?_
    refine Al ?_
    refine Ah ?_
    refine Ab f Z fun a f=>Ai f Z Z As fun a f=>Ad f Z fun a f=>Aa ?_
    obtain rfl:=sj aq
    exact⟨_,Z,_,_,Z,_,an,ao,(gt au aG),f.k Z,m,av⟩
  ·refine Ag f Z aw ?_
   refine Aw Z ?_
   obtain rfl:=sj aq
   obtain rfl:=ar _ rfl
   exact⟨_,Z,_,an,ao,au,f.k Z,m,av⟩
 ·rintro a w ⟨af,rfl,ag,ah,ai,aW,f,m,aX⟩
  refine Ac ?_
  refine Ab f Z fun a f=>Ad f Z fun a f=>Aa ?_
  refine Ao ?_
  obtain rfl:=sj hd
  exact⟨[ah],⟨f.get _ _ Z,trivial⟩,f.defers,_,[ai],aW,m,_,_,Z,Z,aX⟩
theorem Wk.t {W w:World}{G:GH}{H:List Itm}{v0:Value}{v1:Value}{x0:(List Int)}{x1:(List Int)}(m:Mem W G w (H))(h0:RSl (RI .i64) G v0 x0)(h1:RSl (RI .i64) G v1 x1){y:Bool}(hd:D.t x0 x1=some y):
  Calls Tryz.prog 90 #[v0,v1] w (Res W G H (fun _ Ho v=>Ho=[]∧v=(.bool y))):=by
 refine Aq (args:=[v0,v1]) (N:=12) [.tmp 4] Tryz.func90 Z Z (Nat.le_of_ble_eq_true Z) Z fun a f=> ?_
 unfold D.t at hd
 refine Ac ?_
 refine Ad f Z fun a f=>Aa (Ac ?_)
 refine Ab f Z fun a f=>Ab f Z fun a f=> ?_
 obtain⟨aa,ab,hd⟩:=bind_some hd
 refine AK f Z Tryz.call118 (Wk.X0 m h0 h1 ab) fun ac ad ae w af m ag a f=> ?_
 obtain⟨ah,ai,rfl,rfl,aj⟩:=ag
 have h0:=rd1 af h0
 have h1:=rd1 af h1
 refine Bw 0 m aj Z Tryz.underlying31 f Z Z fun a f=>Ab f Z fun a f=>AT Tryz.underlying31 f Z Z h0 fun a f=>Ai f Z Z BH fun a f=>Ad f Z fun a f=>Aa ?_
 refine Ao ?_
 have m:Mem W ad w H:=Mem.drop (H':=[ai]) m
 obtain rfl:=sj hd
 exact⟨[(.bool ((aa.length:Int)==(x0.length:Int)))],⟨f.get _ _ Z,trivial⟩,f.defers,_,[],af,m,Z,Z⟩
theorem Wk.Z0 {W w:World}{G:GH}{H:List Itm}{v0_0:Value}{v0_1:Value}{v1:Value}{x0_0:(List (List Int))}{x0_1:(List (List Int))}{x1:(List Int)}(m:Mem W G w (H))(h0_0:RSl (RSl (RI .i64)) G v0_0 x0_0)(h0_1:RSl (RSl (RI .i64)) G v0_1 x0_1)(h1:RSl (RI .i64) G v1 x1){y:Bool}(hd:D.Z0 x0_0 x0_1 x1=some y):
  Calls Tryz.prog 52 #[(.agg #[v0_0,v0_1]),v1] w (Res W G H (fun _ Ho v=>Ho=[]∧v=(.bool y))):=by
 refine Aq (args:=[(.agg #[v0_0,v0_1]),v1]) (N:=20) [.tmp 4] Tryz.func52 Z Z (Nat.le_of_ble_eq_true Z) Z fun a f=> ?_
 unfold D.Z0 at hd
 refine Ac ?_
 refine Bm (cs:=[v0_0,v0_1]) m f Z Z Z fun aa w a m f=>Ad f Z fun a f=>Aa (Af (Ac ?_))
 refine Ad f Z fun a f=>Aa ?_
 obtain⟨ab,ac,hd⟩:=bind_some hd
 refine AF (fun a w=>∃q_35':Unit,ab= .inl q_35'∧∃(ad:GH),GLe G ad∧Fr a 20 []∧Mem W ad w (H)) ?_ ?_
 ·refine Aj ?_
  refine AC (fun ae a w=>∃af:Int,af=ae∧∃(ag:GH),GLe G ag∧Fr a 20 [(1,v1),(2,(.pointer (some ⟨aa,0,none⟩))),(5,(.int .i64 af))]∧Mem W ag w (Itm.box aa 36 [v0_0,v0_1]::H)) ac ⟨_,Z,_,gr,f.k Z,m⟩ ?_
  clear ac f m
  rintro ae ah ai aj a w ⟨af,rfl,ag,ak,f,m⟩
  have h1:=rd1 ak h1
  have h0_0:=rd2 ak h0_0
  have h0_1:=rd2 ak h0_1
  refine Af (Ac ?_)
  refine Ab f Z fun a f=>Bk Tryz.underlying36 Z Tryz.sizeOf27 f Z fun a f=>Ay 0 0 m AX f Z Z Z Z fun a f=>AT Tryz.underlying27 f Z Z h0_0 fun a f=>Ai f Z Z AA fun a f=>Aa ?_
  rcases Ae ai with⟨al,ai⟩|⟨al,ai⟩
  ·refine Ak f Z al ?_
   refine Al ?_
   refine Af (Aj (Ac ?_))
   refine Ab f Z fun a f=>Bk Tryz.underlying36 Z Tryz.sizeOf27 f Z fun a f=>Ay 0 0 m AX f Z Z Z Z fun a f=>Ab f Z fun a f=> ?_
   obtain⟨am,an,ai⟩:=bind_some ai
   refine AZ T27 f Z Z Z h0_0 an fun ao ap a aq ar f=>Au m AO f Z Z aq fun a f=> ?_
   obtain⟨au,av,ai⟩:=bind_some ai
   refine Bc f Z Tryz.call90 (Wk.t m h1 ar av) fun aw w ax m a f=> ?_
   have h1:=rd1 ax h1
   have h0_0:=rd2 ax h0_0
   have aq:=At.mono ax aq
   have ar:=rd1 ax ar
   have h0_1:=rd2 ax h0_1
   refine Aa ?_
   rcases Ae ai with⟨ay,ai⟩|⟨ay,ai⟩
   ·refine Ak f Z ay ?_
    refine Ac ?_
    refine Ad f Z fun a f=>Aa ?_
    refine Ao ?_
    have m:Mem W aw w H:=Mem.drop (H':=[Itm.box aa 36 [v0_0,v0_1]]) m
    obtain rfl:=sj ai
    obtain rfl:=aj _ rfl
    obtain rfl:=sj hd
    exact⟨[(.bool true)],⟨f.get _ _ Z,trivial⟩,f.defers,_,[],(gt ak ax),m,Z,Z⟩
   ·refine Ag f Z ay ?_
    refine Al ?_
    refine Ah ?_
    refine Ab f Z fun a f=>Ai f Z Z As fun a f=>Ad f Z fun a f=>Aa ?_
    obtain rfl:=sj ai
    exact⟨_,Z,_,Z,_,(gt ak ax),f.k Z,m⟩
  ·refine Ag f Z al ?_
   refine Aw Z ?_
   have m:Mem W ag w H:=Mem.drop (H':=[Itm.box aa 36 [v0_0,v0_1]]) m
   obtain rfl:=sj ai
   obtain rfl:=aj _ rfl
   exact⟨_,Z,_,ak,f.weak trivial,m⟩
 ·rintro a w ⟨_,rfl,ad,az,f,m⟩
  refine Ac ?_
  refine Ad f Z fun a f=>Aa ?_
  refine Ao ?_
  obtain rfl:=sj hd
  exact⟨[(.bool false)],⟨f.get _ _ Z,trivial⟩,f.defers,_,[],az,m,Z,Z⟩
theorem Wk.V0 {W w:World}{G:GH}{H:List Itm}{v0_0:Value}{v0_1:Value}{x0_0:(List (List Int))}{x0_1:(List (List Int))}{x1:Int}(m:Mem W G w (H))(h0_0:RSl (RSl (RI .i64)) G v0_0 x0_0)(h0_1:RSl (RSl (RI .i64)) G v0_1 x0_1){y:((List Int))}(hd:D.V0 x0_0 x0_1 x1=some y):
  Calls Tryz.prog 53 #[(.agg #[v0_0,v0_1]),(.int .i64 x1)] w (Res W G H (fun G' Ho v=>∃r0:Value,∃i0:Itm,Ho=[i0]∧r0=v∧Ow (RI .i64) 2 G' i0 r0 y)):=by
 refine Aq (args:=[(.agg #[v0_0,v0_1]),(.int .i64 x1)]) (N:=27) [.tmp 4] Tryz.func53 Z Z (Nat.le_of_ble_eq_true Z) Z fun a f=> ?_
 unfold D.V0 at hd
 refine Ac ?_
 refine Bm (cs:=[v0_0,v0_1]) m f Z Z Z fun aa w a m f=>Ad f Z fun a f=>Aa (Ac ?_)
 refine A7 (R:=(RI .i64)) (xs:=([]:List Int)) (RI.one _) m T31 f Z Z Z (by decide) (All2.nil _) fun ab ac w a m ad f=>Ad f Z fun a f=>Aa (Af (Ac ?_))
 refine Ad f Z fun a f=>Aa ?_
 obtain⟨ae,af,hd⟩:=bind_some hd
 refine AF (fun a w=>∃ag:List Int,ag=ae∧∃(ah:GH) (ai:Value) (aj:Itm),GLe G ah∧Fr a 27 [(5,ai)]∧Mem W ah w (aj::H)∧Ow (RI .i64) 2 ah aj ai ag) ?_ ?_
 ·refine Aj ?_
  have m:=m.front 1 rfl
  refine AC (fun ak a w=>∃al:List Int,∃am:Int,(al,am)=ak∧∃(an:GH) (ao:Value) (ap:Itm),GLe G an∧Fr a 27 [(1,(.int .i64 x1)),(2,(.pointer (some ⟨aa,0,none⟩))),(5,ao),(6,(.int .i64 am))]∧Mem W an w (Itm.box aa 36 [v0_0,v0_1]::ap::H)∧Ow (RI .i64) 2 an ap ao al) af ⟨_,_,Z,_,ac,ab,gr,f.k Z,m,ad⟩ ?_
  clear af f m
  rintro ak aq ar au a w ⟨al,am,rfl,an,ao,ap,av,f,m,aw⟩
  have h0_0:=rd2 av h0_0
  have h0_1:=rd2 av h0_1
  refine Af (Ac ?_)
  refine Ab f Z fun a f=>Bk Tryz.underlying36 Z Tryz.sizeOf27 f Z fun a f=>Ay 0 0 m AX f Z Z Z Z fun a f=>AT Tryz.underlying27 f Z Z h0_0 fun a f=>Ai f Z Z AA fun a f=>Aa ?_
  rcases Ae ar with⟨ax,ar⟩|⟨ax,ar⟩
  ·refine Ak f Z ax ?_
   refine Al ?_
   refine Af (Aj (Ac ?_))
   refine Bk Tryz.underlying36 Z Tryz.sizeOf27 f Z fun a f=>Ay 0 0 m AX f Z Z Z Z fun a f=>Ab f Z fun a f=> ?_
   obtain⟨ay,az,ar⟩:=bind_some ar
   refine AZ T27 f Z Z Z h0_0 az fun aA aB a aC aD f=>Au m AO f Z Z aC fun a f=>Ab f Z fun a f=> ?_
   obtain⟨aE,aF,ar⟩:=bind_some ar
   refine Bc f Z Tryz.call84 (Wk.f m aD aF) fun aG w aH m a f=> ?_
   have h0_0:=rd2 aH h0_0
   have aC:=At.mono aH aC
   have aD:=rd1 aH aD
   have h0_1:=rd2 aH h0_1
   have aw:=od1 aH aw
   refine Aa ?_
   rcases Ae ar with⟨aI,ar⟩|⟨aI,ar⟩
   ·refine Ak f Z aI ?_
    refine Ah ?_
    refine Ab f Z fun a f=>Ab f Z fun a f=>A7 (R:=(RI .i64)) (xs:=([am]:List Int)) (RI.one _) m T31 f Z Z Z (by decide) (All2.cons Z (All2.nil _)) fun aJ aK w a m aL f=> ?_
    obtain⟨aM,aN,ar⟩:=bind_some ar
    refine Bh (RI.one _) 2 m aw Z T31 Z (by decide) f Z Z Z (Ow.src (j:=0) aL m Z) aN fun aO aP w a m aQ f=>Ad f Z fun a f=>Aa (Ah ?_)
    refine Ab f Z fun a f=>Ai f Z Z As fun a f=>Ad f Z fun a f=>Aa ?_
    have m:=m.front 2 rfl
    have m:=m.front 2 rfl
    have m:=m.eraseAt 2
    obtain rfl:=sj ar
    exact⟨_,Z,_,_,Z,_,aP,aO,(gt av aH),f.k Z,m,aQ⟩
   ·refine Ag f Z aI ?_
    refine Al ?_
    refine Ah ?_
    refine Ab f Z fun a f=>Ai f Z Z As fun a f=>Ad f Z fun a f=>Aa ?_
    obtain rfl:=sj ar
    exact⟨_,Z,_,_,Z,_,ao,ap,(gt av aH),f.k Z,m,aw⟩
  ·refine Ag f Z ax ?_
   refine Aw Z ?_
   have m:=m.front 1 rfl
   have m:=m.eraseAt 1
   obtain rfl:=sj ar
   obtain rfl:=au _ rfl
   exact⟨_,Z,_,ao,ap,av,f.k Z,m,aw⟩
 ·rintro a w ⟨ag,rfl,ah,ai,aj,aR,f,m,aS⟩
  refine Ac ?_
  refine Ab f Z fun a f=>Ad f Z fun a f=>Aa ?_
  refine Ao ?_
  obtain rfl:=sj hd
  exact⟨[ai],⟨f.get _ _ Z,trivial⟩,f.defers,_,[aj],aR,m,_,_,Z,Z,aS⟩
end Go.Proofs.YtkffjeaefgfnnaaGreatDoor
