/- Parts of the proof: NBW, NCW, SxOp, NHandC. -/
import Derived.Test.YtebbefpdncgoiaaDoorCl3
import Derived.Test.YtebbefpdncgoiaaDoorProg
import Derived.KernelRfl
set_option linter.unusedVariables false
set_option linter.unusedSimpArgs false
set_option linter.unusedSectionVars false
set_option maxRecDepth 100000
namespace Go.Proofs.YtebbefpdncgoiaaDoor
open Go Go.Sx
theorem T22 : SlT Tryd.prog 22 5 1 1 (.int .u8 0) := ⟨Tryd.underlying22, Tryd.t5, by kernel_rfl, by kernel_rfl, by kernel_rfl, by kernel_rfl⟩
theorem Pl26 : Plain Tryd.prog 26 := Tryd.isAgg26
theorem Pl22 : Plain Tryd.prog 22 := Tryd.isAgg22
theorem T30 : SlT Tryd.prog 30 28 1 24 (.slice none 0 0) := ⟨Tryd.underlying30, Tryd.t28, by kernel_rfl, by kernel_rfl, by kernel_rfl, by kernel_rfl⟩
theorem Pl30 : Plain Tryd.prog 30 := Tryd.isAgg30
theorem Ag32 : Agg Tryd.prog 32 1 := ⟨Tryd.isAgg32, Tryd.sizeOf32⟩
theorem Pl28 : Plain Tryd.prog 28 := Tryd.isAgg28

theorem Wk.v0 {W w : World} {G : GH} {H : List Itm} {v0 : Value} {x0 : (List Int)} (m : Mem W G w (H)) (h0 : RSl (RI .u8) G v0 x0) {y : Bool} (hd : D.v0 x0 = some y) :
  Calls Tryd.prog 4 #[v0] w (Res W G H (fun _ Ho v => Ho = [] ∧ v = (.bool y))) := by
 refine calls_b (args := [v0]) (N := 6) [.tmp 2] Tryd.func4 rfl rfl (Nat.le_of_ble_eq_true rfl) rfl fun a f => ?_
 unfold D.v0 at hd
 refine k_seq (k_region ?_)
 refine l_as f rfl rfl fun a f => l_nil (k_seq (k_region ?_))
 refine l_mv f rfl rfl fun a f => l_len Tryd.underlying22 f rfl rfl h0 fun a f => l_in f rfl rfl rfl b_gtr fun a f => l_as f rfl rfl fun a f => l_nil ?_
 refine k_ret ?_
 obtain rfl := sj hd
 exact ⟨[(.bool (decide ((4096 : Int) < (x0.length : Int))))], ⟨f.get _ _ rfl, trivial⟩, f.defers, _, [], (GLe.refl _), m, rfl, rfl⟩

theorem Wk.h0 {W w : World} {G : GH} {H : List Itm} {v0 : Value} {x0 : (List Int)} {x1 : Int} (m : Mem W G w (H)) (h0 : RSl (RI .u8) G v0 x0) {y : ((List Int)) × Int × Int} (hd : D.h0 x0 x1 = some y) :
  Calls Tryd.prog 5 #[v0, (.int .u64 x1)] w (Res W G H (fun G' Ho v => ∃ r0 : Value, ∃ c1 : Nat, Ho = [Itm.box c1 41 [r0, (.int .i64 y.2.1), (.int .u64 y.2.2)]] ∧ v = (.pointer (some ⟨c1, 0, none⟩)) ∧ RSl (RI .u8) G' r0 y.1)) := by
 refine calls_b (args := [v0, (.int .u64 x1)]) (N := 38) [.tmp 4] Tryd.func5 rfl rfl (Nat.le_of_ble_eq_true rfl) rfl fun a f => ?_
 unfold D.h0 at hd
 refine k_seq (k_region ?_)
 refine l_as f rfl rfl fun a f => l_nil (k_seq (k_region ?_))
 refine l_mv f rfl rfl fun a f => l_mv f rfl rfl fun a f => l_in f rfl rfl rfl b_mul fun a f => l_mv f rfl rfl fun a f => l_len Tryd.underlying22 f rfl rfl h0 fun a f => l_op f rfl rfl rfl (r_conv (f.eval rfl) ⟨_, Tryd.underlying3⟩ Tryd.underlying26) fun a f => l_in f rfl rfl rfl b_add fun a f => ?_
 have aa : ∀ w, (Instr.build 41 #[(0, v0), (2, (.int .u64 (IntKind.u64.wrap ((IntKind.u64.wrap (x1 * 7919)) + (IntKind.u64.wrap (x0.length : Int))))))]).run Tryd.prog w = .ok (.agg #[v0, (.int .i64 0), (.int .u64 (IntKind.u64.wrap ((IntKind.u64.wrap (x1 * 7919)) + (IntKind.u64.wrap (x0.length : Int)))))]) w := by intro w; simp [Instr.build, Instr.fill, h0.cells, cells_int, cells_bool, cells_string, cells_slice, cells_pointer, cells_agg]
 refine l_build f rfl rfl aa fun a f => l_box (cs := [v0, (.int .i64 0), (.int .u64 (IntKind.u64.wrap ((IntKind.u64.wrap (x1 * 7919)) + (IntKind.u64.wrap (x0.length : Int)))))]) m f rfl rfl rfl fun ab w a m f => l_as f rfl rfl fun a f => l_nil (k_seq (k_seq (k_region ?_)))
 refine l_as f rfl rfl fun a f => l_nil ?_
 obtain ⟨ac, ad, hd⟩ := bind_some hd
 refine k_cut (fun a w => ∃ ae : Int, ae = ac ∧ ∃ (af : GH), GLe G af ∧ Fr a 38 [(5, (.pointer (some ⟨ab, 0, none⟩)))] ∧ Mem W af w (Itm.box ab 41 [v0, (.int .i64 0), (.int .u64 ae)] :: H)) ?_ ?_
 ·refine k_block ?_
  refine k_loop (fun ag a w => ∃ ah : Int, ∃ ai : Int, (ah, ai) = ag ∧ ∃ (aj : GH), GLe G aj ∧ Fr a 38 [(0, v0), (5, (.pointer (some ⟨ab, 0, none⟩))), (6, (.int .i64 ah))] ∧ Mem W aj w (Itm.box ab 41 [v0, (.int .i64 0), (.int .u64 ai)] :: H)) ad ⟨_, _, rfl, _, (GLe.refl _), f.weak ⟨rfl, rfl, rfl, trivial⟩, m⟩ ?_
  clear ad f m
  rintro ag ak al am a w ⟨ah, ai, rfl, aj, an, f, m⟩
  have h0 := rd1 an h0
  refine k_seq (k_seq (k_region ?_))
  refine l_mv f rfl rfl fun a f => l_mv f rfl rfl fun a f => l_len Tryd.underlying22 f rfl rfl h0 fun a f => l_in f rfl rfl rfl b_lss fun a f => l_nil ?_
  rcases cond_some al with ⟨ao, al⟩ | ⟨ao, al⟩
  ·refine k_true f rfl ao ?_
   refine k_skip ?_
   refine k_seq (k_block ?_)
   refine k_draw 15 Follows (by kernel_rfl) m ?_
   refine q_mv 0 15 rfl (by kernel_rfl) f rfl rfl rfl fun a f => q_mv 1 15 rfl (by kernel_rfl) f rfl rfl rfl fun a f => q_p 2 15 rfl (by kernel_rfl) f rfl rfl rfl (fun _ => r_nilCheck (f.eval rfl)) fun a f => q_fieldAddr (i := 3) 15 Tryd.underlying41 rfl Tryd.sizeOf26 (by decide) rfl (by kernel_rfl) rfl f rfl rfl rfl fun a f => q_boxCell (i := 4) 15 0 Pl26 rfl rfl rfl (by kernel_rfl) rfl f rfl rfl rfl fun a f => q_p 5 15 rfl (by kernel_rfl) f rfl rfl rfl (fun _ => r_int (f.eval rfl) (f.eval rfl) b_mul) fun a f => q_mv 6 15 rfl (by kernel_rfl) f rfl rfl rfl fun a f => q_mv 7 15 rfl (by kernel_rfl) f rfl rfl rfl fun a f => ?_
   obtain ⟨ap, aq, al⟩ := bind_some al
   refine q_at (i := 8) 15 T22 h0 aq rfl (by kernel_rfl) rfl f rfl rfl rfl rfl fun ar au a av aw f => ?_
   subst aw
   refine q_loadAt (i := 9) 15 Pl5 av rfl (by kernel_rfl) rfl f rfl rfl rfl fun a f => q_p 10 15 rfl (by kernel_rfl) f rfl rfl rfl (fun _ => r_conv (f.eval rfl) ⟨_, Tryd.underlying5⟩ Tryd.underlying26) fun a f => q_p 11 15 rfl (by kernel_rfl) f rfl rfl rfl (fun _ => r_int (f.eval rfl) (f.eval rfl) b_add) fun a f => q_p 12 15 rfl (by kernel_rfl) f rfl rfl rfl (fun _ => r_int (f.eval rfl) (f.eval rfl) b_add) fun a f => q_p 13 15 rfl (by kernel_rfl) f rfl rfl rfl (fun _ => r_nilCheck (f.eval rfl)) fun a f => q_fieldAddr (i := 14) 15 Tryd.underlying41 rfl Tryd.sizeOf26 (by decide) rfl (by kernel_rfl) rfl f rfl rfl rfl fun a f => q_end fun ax w ay m => ?_
   have h0 := rd1 ay h0
   have av := At.mono ay av
   refine l_boxStore 0 2 (ds := [(.int .u64 (IntKind.u64.wrap ((IntKind.u64.wrap ((IntKind.u64.wrap (ai * 1099511628211)) + (IntKind.u64.wrap ap))) + 3)))]) m Tryd.sizeOf26 f rfl rfl rfl (ones_cons rfl ones_nil) rfl (Nat.le_of_ble_eq_true rfl) rfl fun w m => l_nil (k_region ?_)
   refine l_mv f rfl rfl fun a f => l_in f rfl rfl rfl b_add fun a f => l_as f rfl rfl fun a f => l_nil ?_
   obtain rfl := sj al
   exact ⟨_, rfl, _, _, rfl, _, (GLe.trans an ay), f.weak ⟨rfl, rfl, rfl, trivial⟩, m⟩
  ·refine k_false f rfl ao ?_
   refine k_exit rfl ?_
   obtain rfl := sj al
   obtain rfl := am _ rfl
   exact ⟨_, rfl, _, an, f.weak ⟨rfl, trivial⟩, m⟩
 ·rintro a w ⟨ae, rfl, af, az, f, m⟩
  have h0 := rd1 az h0
  refine k_seq (k_region ?_)
  refine l_mv f rfl rfl fun a f => l_as f rfl rfl fun a f => l_nil ?_
  refine k_ret ?_
  obtain rfl := sj hd
  exact ⟨[(.pointer (some ⟨ab, 0, none⟩))], ⟨f.get _ _ rfl, trivial⟩, f.defers, _, [Itm.box ab 41 [v0, (.int .i64 0), (.int .u64 ae)]], az, m, _, _, rfl, rfl, h0⟩

theorem Wk.w {W w : World} {G : GH} {H : List Itm} {v0_0 : Value} {b0 : Nat} {x0_0 : (List Int)} {x0_1 : Int} {x0_2 : Int} {x1 : Int} (m : Mem W G w (Itm.box b0 41 [v0_0, (.int .i64 x0_1), (.int .u64 x0_2)] :: H)) (h0_0 : RSl (RI .u8) G v0_0 x0_0) {y : Int × ((List Int)) × Int × Int} (hd : D.w x0_0 x0_1 x0_2 x1 = some y) :
  Calls Tryd.prog 6 #[(.pointer (some ⟨b0, 0, none⟩)), (.int .i64 x1)] w (Res W G H (fun G' Ho v => ∃ r0 : Value, Ho = [Itm.box b0 41 [r0, (.int .i64 y.2.2.1), (.int .u64 y.2.2.2)]] ∧ v = (.int .i64 y.1) ∧ RSl (RI .u8) G' r0 y.2.1)) := by
 refine calls_b (args := [(.pointer (some ⟨b0, 0, none⟩)), (.int .i64 x1)]) (N := 56) [.tmp 4] Tryd.func6 rfl rfl (Nat.le_of_ble_eq_true rfl) rfl fun a f => ?_
 unfold D.w at hd
 refine k_seq (k_region ?_)
 refine l_as f rfl rfl fun a f => l_nil (k_seq (k_region ?_))
 refine l_mv f rfl rfl fun a f => l_mv f rfl rfl fun a f => l_op f rfl rfl rfl (r_nilCheck (f.eval rfl)) fun a f => l_fieldAddr Tryd.underlying41 rfl Tryd.sizeOf26 (by decide) f rfl rfl fun a f => l_boxCell 0 2 m Pl26 f rfl rfl rfl rfl fun a f => l_in f rfl rfl rfl b_mul fun a f => l_in f rfl rfl rfl b_add fun a f => l_op f rfl rfl rfl (r_nilCheck (f.eval rfl)) fun a f => l_fieldAddr Tryd.underlying41 rfl Tryd.sizeOf26 (by decide) f rfl rfl fun a f => l_boxStore 0 2 (ds := [(.int .u64 (IntKind.u64.wrap ((IntKind.u64.wrap (x0_2 * 6364136223846793005)) + 1442695040888963407)))]) m Tryd.sizeOf26 f rfl rfl rfl (ones_cons rfl ones_nil) rfl (Nat.le_of_ble_eq_true rfl) rfl fun w m => l_nil (k_seq (k_region ?_))
 refine l_mv f rfl rfl fun a f => l_op f rfl rfl rfl (r_nilCheck (f.eval rfl)) fun a f => l_fieldAddr Tryd.underlying41 rfl Tryd.sizeOf26 (by decide) f rfl rfl fun a f => l_boxCell 0 2 m Pl26 f rfl rfl rfl rfl fun a f => l_op f rfl rfl rfl (r_shr (f.eval rfl) (f.eval rfl) (by decide)) fun a f => l_in f rfl rfl rfl b_and fun a f => l_op f rfl rfl rfl (r_conv (f.eval rfl) ⟨_, Tryd.underlying26⟩ Tryd.underlying2) fun a f => l_as f rfl rfl fun a f => l_nil (k_seq (k_seq ?_))
 refine k_draw 10 Follows (by kernel_rfl) m ?_
 refine q_mv 0 10 rfl (by kernel_rfl) f rfl rfl rfl fun a f => q_p 1 10 rfl (by kernel_rfl) f rfl rfl rfl (fun _ => r_nilCheck (f.eval rfl)) fun a f => q_fieldAddr (i := 2) 10 Tryd.underlying41 rfl Tryd.sizeOf3 (by decide) rfl (by kernel_rfl) rfl f rfl rfl rfl fun a f => q_boxCell (i := 3) 10 0 Pl3 rfl rfl rfl (by kernel_rfl) rfl f rfl rfl rfl fun a f => q_mv 4 10 rfl (by kernel_rfl) f rfl rfl rfl fun a f => q_p 5 10 rfl (by kernel_rfl) f rfl rfl rfl (fun _ => r_nilCheck (f.eval rfl)) fun a f => q_fieldAddr (i := 6) 10 Tryd.underlying41 rfl Tryd.sizeOf22 (by decide) rfl (by kernel_rfl) rfl f rfl rfl rfl fun a f => q_boxCell (i := 7) 10 0 Pl22 rfl rfl rfl (by kernel_rfl) rfl f rfl rfl rfl fun a f => q_len (i := 8) 10 Tryd.underlying22 h0_0 rfl (by kernel_rfl) rfl f rfl rfl rfl fun a f => q_p 9 10 rfl (by kernel_rfl) f rfl rfl rfl (fun _ => r_int (f.eval rfl) (f.eval rfl) b_lss) fun a f => ?_
 refine q_end fun aa w ab m => ?_
 have h0_0 := rd1 ab h0_0
 refine l_nil ?_
 rcases cond_some hd with ⟨ac, hd⟩ | ⟨ac, hd⟩
 ·refine k_true f rfl ac ?_
  refine k_seq ?_
  refine k_draw 14 Follows (by kernel_rfl) m ?_
  refine q_mv 0 14 rfl (by kernel_rfl) f rfl rfl rfl fun a f => q_mv 1 14 rfl (by kernel_rfl) f rfl rfl rfl fun a f => q_p 2 14 rfl (by kernel_rfl) f rfl rfl rfl (fun _ => r_nilCheck (f.eval rfl)) fun a f => q_fieldAddr (i := 3) 14 Tryd.underlying41 rfl Tryd.sizeOf22 (by decide) rfl (by kernel_rfl) rfl f rfl rfl rfl fun a f => q_boxCell (i := 4) 14 0 Pl22 rfl rfl rfl (by kernel_rfl) rfl f rfl rfl rfl fun a f => q_mv 5 14 rfl (by kernel_rfl) f rfl rfl rfl fun a f => q_p 6 14 rfl (by kernel_rfl) f rfl rfl rfl (fun _ => r_nilCheck (f.eval rfl)) fun a f => q_fieldAddr (i := 7) 14 Tryd.underlying41 rfl Tryd.sizeOf3 (by decide) rfl (by kernel_rfl) rfl f rfl rfl rfl fun a f => q_boxCell (i := 8) 14 0 Pl3 rfl rfl rfl (by kernel_rfl) rfl f rfl rfl rfl fun a f => ?_
  obtain ⟨ad, ae, hd⟩ := bind_some hd
  refine q_at (i := 9) 14 T22 h0_0 ae rfl (by kernel_rfl) rfl f rfl rfl rfl rfl fun af ag a ah ai f => ?_
  subst ai
  refine q_loadAt (i := 10) 14 Pl5 ah rfl (by kernel_rfl) rfl f rfl rfl rfl fun a f => q_p 11 14 rfl (by kernel_rfl) f rfl rfl rfl (fun _ => r_conv (f.eval rfl) ⟨_, Tryd.underlying5⟩ Tryd.underlying2) fun a f => q_p 12 14 rfl (by kernel_rfl) f rfl rfl rfl (fun _ => r_int (f.eval rfl) (f.eval rfl) b_add) fun a f => q_p 13 14 rfl (by kernel_rfl) f rfl rfl rfl (fun _ => r_assign (f.eval rfl)) fun a f => q_end fun aj w ak m => ?_
  have h0_0 := rd1 ak h0_0
  have ah := At.mono ak ah
  refine l_nil (k_region ?_)
  refine l_mv f rfl rfl fun a f => l_mv f rfl rfl fun a f => l_op f rfl rfl rfl (r_nilCheck (f.eval rfl)) fun a f => l_fieldAddr Tryd.underlying41 rfl Tryd.sizeOf3 (by decide) f rfl rfl fun a f => l_boxCell 0 1 m Pl3 f rfl rfl rfl rfl fun a f => l_in f rfl rfl rfl b_add fun a f => l_op f rfl rfl rfl (r_nilCheck (f.eval rfl)) fun a f => l_fieldAddr Tryd.underlying41 rfl Tryd.sizeOf3 (by decide) f rfl rfl fun a f => l_boxStore 0 1 (ds := [(.int .i64 (IntKind.i64.wrap (x0_1 + 1)))]) m Tryd.sizeOf3 f rfl rfl rfl (ones_cons rfl ones_nil) rfl (Nat.le_of_ble_eq_true rfl) rfl fun w m => l_nil (k_seq (k_region ?_))
  refine l_mv f rfl rfl fun a f => l_mv f rfl rfl fun a f => ?_
  obtain ⟨al, hd⟩ := cond_none hd
  refine l_in f rfl rfl rfl (b_rem al) fun a f => l_as f rfl rfl fun a f => l_nil ?_
  refine k_ret ?_
  obtain rfl := sj hd
  exact ⟨[(.int .i64 (Int.tmod (IntKind.i64.wrap ((IntKind.i64.wrap (iand .u64 (ishr .u64 (IntKind.u64.wrap ((IntKind.u64.wrap (x0_2 * 6364136223846793005)) + 1442695040888963407)) 33) 16777215)) + (IntKind.i64.wrap ad))) x1))], ⟨f.get _ _ rfl, trivial⟩, f.defers, _, [Itm.box b0 41 [v0_0, (.int .i64 (IntKind.i64.wrap (x0_1 + 1))), (.int .u64 (IntKind.u64.wrap ((IntKind.u64.wrap (x0_2 * 6364136223846793005)) + 1442695040888963407)))]], (GLe.trans ab ak), m, _, rfl, rfl, h0_0⟩
 ·refine k_false f rfl ac ?_
  refine k_skip ?_
  refine k_seq (k_region ?_)
  refine l_mv f rfl rfl fun a f => l_mv f rfl rfl fun a f => ?_
  obtain ⟨am, hd⟩ := cond_none hd
  refine l_in f rfl rfl rfl (b_rem am) fun a f => l_as f rfl rfl fun a f => l_nil ?_
  refine k_ret ?_
  obtain rfl := sj hd
  exact ⟨[(.int .i64 (Int.tmod (IntKind.i64.wrap (iand .u64 (ishr .u64 (IntKind.u64.wrap ((IntKind.u64.wrap (x0_2 * 6364136223846793005)) + 1442695040888963407)) 33) 16777215)) x1))], ⟨f.get _ _ rfl, trivial⟩, f.defers, _, [Itm.box b0 41 [v0_0, (.int .i64 x0_1), (.int .u64 (IntKind.u64.wrap ((IntKind.u64.wrap (x0_2 * 6364136223846793005)) + 1442695040888963407)))]], ab, m, _, rfl, rfl, h0_0⟩

theorem Wk.y {W w : World} {G : GH} {H : List Itm} {v0_0 : Value} {b0 : Nat} {x0_0 : (List Int)} {x0_1 : Int} {x0_2 : Int} {x1 : Int} (m : Mem W G w (Itm.box b0 41 [v0_0, (.int .i64 x0_1), (.int .u64 x0_2)] :: H)) (h0_0 : RSl (RI .u8) G v0_0 x0_0) {y : ((List Int)) × ((List Int)) × Int × Int} (hd : D.y x0_0 x0_1 x0_2 x1 = some y) :
  Calls Tryd.prog 7 #[(.pointer (some ⟨b0, 0, none⟩)), (.int .i64 x1)] w (Res W G H (fun G' Ho v => ∃ r0 : Value, ∃ i0 : Itm, ∃ r2 : Value, Ho = [i0, Itm.box b0 41 [r2, (.int .i64 y.2.2.1), (.int .u64 y.2.2.2)]] ∧ r0 = v ∧ Ow (RI .i64) 2 G' i0 r0 y.1 ∧ RSl (RI .u8) G' r2 y.2.1)) := by
 refine calls_b (args := [(.pointer (some ⟨b0, 0, none⟩)), (.int .i64 x1)]) (N := 35) [.tmp 4] Tryd.func7 rfl rfl (Nat.le_of_ble_eq_true rfl) rfl fun a f => ?_
 unfold D.y at hd
 refine k_seq (k_region ?_)
 refine l_as f rfl rfl fun a f => l_nil (k_seq (k_region ?_))
 refine l_slit (R := (RI .i64)) (xs := ([] : List Int)) (RI.one _) m T28 f rfl rfl rfl (by decide) (All2.nil _) fun aa ab w a m ac f => l_as f rfl rfl fun a f => l_nil (k_seq (k_seq (k_region ?_)))
 refine l_as f rfl rfl fun a f => l_nil ?_
 obtain ⟨ad, ae, hd⟩ := bind_some hd
 refine k_cut (fun a w => ∃ af : List Int, ∃ ag : List Int, ∃ ah : Int, ∃ ai : Int, (af, ag, ah, ai) = ad ∧ ∃ (aj : GH) (ak : Value) (al : Itm) (am : Value), GLe G aj ∧ Fr a 35 [(5, ak)] ∧ Mem W aj w (Itm.box b0 41 [am, (.int .i64 ah), (.int .u64 ai)] :: al :: H) ∧ Ow (RI .i64) 2 aj al ak af ∧ RSl (RI .u8) aj am ag) ?_ ?_
 ·refine k_block ?_
  have m := m.front 1 rfl
  refine k_loop (fun an a w => ∃ ao : List Int, ∃ ap : Int, ∃ aq : List Int, ∃ ar : Int, ∃ au : Int, (ao, ap, aq, ar, au) = an ∧ ∃ (av : GH) (aw : Value) (ax : Itm) (ay : Value), GLe G av ∧ Fr a 35 [(0, (.pointer (some ⟨b0, 0, none⟩))), (1, (.int .i64 x1)), (5, aw), (6, (.int .i64 ap))] ∧ Mem W av w (Itm.box b0 41 [ay, (.int .i64 ar), (.int .u64 au)] :: ax :: H) ∧ Ow (RI .i64) 2 av ax aw ao ∧ RSl (RI .u8) av ay aq) ae ⟨_, _, _, _, _, rfl, _, ab, aa, v0_0, (GLe.refl _), f.weak ⟨rfl, rfl, rfl, rfl, trivial⟩, m, ac, h0_0⟩ ?_
  clear ae f m
  rintro an az aA aB a w ⟨ao, ap, aq, ar, au, rfl, av, aw, ax, ay, aC, f, m, aD, aE⟩
  refine k_seq (k_seq (k_region ?_))
  refine l_mv f rfl rfl fun a f => l_mv f rfl rfl fun a f => l_in f rfl rfl rfl b_lss fun a f => l_nil ?_
  rcases cond_some aA with ⟨aF, aA⟩ | ⟨aF, aA⟩
  ·refine k_true f rfl aF ?_
   refine k_skip ?_
   refine k_seq (k_block (k_seq (k_region ?_)))
   refine l_mv f rfl rfl fun a f => l_mv f rfl rfl fun a f => l_own_len 1 m aD rfl Tryd.underlying28 f rfl rfl fun a f => l_in f rfl rfl rfl b_add fun a f => ?_
   obtain ⟨aG, aH, aA⟩ := bind_some aA
   refine l_res f rfl rfl Tryd.call6 (Wk.w m aE aH) fun aI aJ aK w aL m aM a f => ?_
   obtain ⟨aN, rfl, rfl, aO⟩ := aM
   have aD := od1 aL aD
   refine l_as f rfl rfl fun a f => l_nil (k_seq (k_region ?_))
   refine l_slit (R := (RI .i64)) (xs := ([] : List Int)) (RI.one _) m T28 f rfl rfl rfl (by decide) (All2.nil _) fun aP aQ w a m aR f => l_mv f rfl rfl fun a f => l_mv f rfl rfl fun a f => ?_
   have m : Mem W aJ w (ax :: aP :: Itm.box b0 41 [aN, (.int .i64 aG.2.2.1), (.int .u64 aG.2.2.2)] :: H) := m.front 2 rfl
   obtain ⟨aS, aT, m, aU⟩ := Ow.stamp (RI.mono _) aD m
   have aR := od1 aT aR
   have aO := rd1 aT aO
   obtain ⟨aV, aW, aA⟩ := bind_some aA
   refine l_slice T28 f rfl rfl aU (.inl ⟨rfl, rfl⟩) (.inr ⟨_, _, rfl, rfl⟩) aW fun aX a aY f => ?_
   obtain ⟨aZ, a0, aA⟩ := bind_some aA
   refine l_append (RI.one _) 0 m aR rfl T28 rfl (by decide) f rfl rfl rfl (aY.src m) a0 fun a1 a2 w a m a3 f => l_as f rfl rfl fun a f => l_nil (k_seq (k_region ?_))
   refine l_mv f rfl rfl fun a f => l_mv f rfl rfl fun a f => l_slit (R := (RI .i64)) (xs := ([ap] : List Int)) (RI.one _) m T28 f rfl rfl rfl (by decide) (All2.cons rfl (All2.nil _)) fun a4 a5 w a m a6 f => ?_
   obtain ⟨a7, a8, aA⟩ := bind_some aA
   refine l_append (RI.one _) 1 m a3 rfl T28 rfl (by decide) f rfl rfl rfl (Ow.src (j := 0) a6 m rfl) a8 fun a9 ba w a m bb f => l_as f rfl rfl fun a f => l_nil (k_region ?_)
   refine l_mv f rfl rfl fun a f => l_mv f rfl rfl fun a f => l_mv f rfl rfl fun a f => ?_
   obtain ⟨bc, bd, aA⟩ := bind_some aA
   refine l_slice T28 f rfl rfl aU (.inr ⟨_, _, rfl, rfl⟩) (.inl ⟨rfl, rfl⟩) bd fun be a bf f => ?_
   obtain ⟨bg, bh, aA⟩ := bind_some aA
   refine l_append (RI.one _) 1 m bb rfl T28 rfl (by decide) f rfl rfl rfl (bf.src m) bh fun bi bj w a m bk f => l_as f rfl rfl fun a f => l_nil (k_region ?_)
   refine l_mv f rfl rfl fun a f => l_in f rfl rfl rfl b_add fun a f => l_as f rfl rfl fun a f => l_nil ?_
   have m := m.front 1 rfl
   have m := m.front 2 rfl
   have m : Mem W aS w (Itm.box b0 41 [aN, (.int .i64 aG.2.2.1), (.int .u64 aG.2.2.2)] :: bi :: H) := m.eraseAt 2
   obtain rfl := sj aA
   exact ⟨_, rfl, _, _, _, _, _, rfl, _, bj, bi, aN, (GLe.trans aC (GLe.trans aL aT)), f.weak ⟨rfl, rfl, rfl, rfl, trivial⟩, m, bk, aO⟩
  ·refine k_false f rfl aF ?_
   refine k_exit rfl ?_
   obtain rfl := sj aA
   obtain rfl := aB _ rfl
   exact ⟨_, _, _, _, rfl, _, aw, ax, ay, aC, f.weak ⟨rfl, trivial⟩, m, aD, aE⟩
 ·rintro a w ⟨af, ag, ah, ai, rfl, aj, ak, al, am, bl, f, m, bm, bn⟩
  refine k_seq (k_region ?_)
  refine l_mv f rfl rfl fun a f => l_as f rfl rfl fun a f => l_nil ?_
  refine k_ret ?_
  have m := m.front 1 rfl
  obtain rfl := sj hd
  exact ⟨[ak], ⟨f.get _ _ rfl, trivial⟩, f.defers, _, [al, Itm.box b0 41 [am, (.int .i64 ah), (.int .u64 ai)]], bl, m, _, _, _, rfl, rfl, bm, bn⟩

theorem Wk.c {W w : World} {G : GH} {H : List Itm} {x0 : Int} {x1 : Int} {x2 : Int} (m : Mem W G w (H))  {y : Bool} (hd : D.c x0 x1 x2 = some y) :
  Calls Tryd.prog 28 #[(.int .i64 x0), (.int .i64 x1), (.int .i64 x2)] w (Res W G H (fun _ Ho v => Ho = [] ∧ v = (.bool y))) := by
 refine calls_b (args := [(.int .i64 x0), (.int .i64 x1), (.int .i64 x2)]) (N := 15) [.tmp 6] Tryd.func28 rfl rfl (Nat.le_of_ble_eq_true rfl) rfl fun a f => ?_
 unfold D.c at hd
 refine k_seq (k_region ?_)
 refine l_as f rfl rfl fun a f => l_nil (k_seq (k_region ?_))
 refine l_mv f rfl rfl fun a f => l_mv f rfl rfl fun a f => l_in f rfl rfl rfl b_geq fun a f => l_mv f rfl rfl fun a f => ?_
 refine l_cut 4 (fun a w => ∃ aa, GLe G aa ∧ Mem W aa w (H) ∧ Fr a 15 [(0, (.int .i64 x0)), (1, (.int .i64 x1)), (2, (.int .i64 x2)), (7, (.int .i64 x0)), (8, (.int .i64 x1)), (9, (.bool (decide (x1 ≤ x0)))), (10, (.bool (decide (x1 ≤ x0)))), (14, (.bool ((decide (x1 ≤ x0)) && (decide (x0 ≤ x2)))))]) ?_ ?_
 ·rcases Bool.eq_false_or_eq_true (decide (x1 ≤ x0)) with ab | ab
  ·refine l_run f rfl rfl ab ?_
   refine l_mv f rfl rfl fun a f => l_run f rfl rfl ab ?_
   refine l_mv f rfl rfl fun a f => l_run f rfl rfl ab ?_
   refine l_in f rfl rfl rfl b_leq fun a f => l_op f rfl rfl rfl (r_pickT (f.eval rfl) ab (f.eval rfl)) fun a f => ?_
   exact ⟨_, (GLe.refl _), m, f.weak ⟨rfl, rfl, rfl, rfl, rfl, rfl, rfl, by rw [ab]; rfl, trivial⟩⟩
  ·refine l_not' f rfl rfl rfl ab fun a f => ?_
   refine l_not' f rfl rfl rfl ab fun a f => l_not' f rfl rfl rfl ab fun a f => l_op f rfl rfl rfl (r_pickF (f.eval rfl) ab (f.eval rfl)) fun a f => ?_
   exact ⟨_, (GLe.refl _), m, f.weak ⟨rfl, rfl, rfl, rfl, rfl, rfl, rfl, by rw [ab]; rfl, trivial⟩⟩
 ·rintro a w ⟨aa, ac, m, f⟩
  refine l_as f rfl rfl fun a f => l_nil ?_
  refine k_ret ?_
  obtain rfl := sj hd
  exact ⟨[(.bool ((decide (x1 ≤ x0)) && (decide (x0 ≤ x2))))], ⟨f.get _ _ rfl, trivial⟩, f.defers, _, [], ac, m, rfl, rfl⟩

theorem Wk.i {W w : World} {G : GH} {H : List Itm} {v0 : Value} {x0 : (List Int)} {x1 : Int} (m : Mem W G w (H)) (h0 : RSl (RI .i64) G v0 x0) {y : Bool} (hd : D.i x0 x1 = some y) :
  Calls Tryd.prog 30 #[v0, (.int .i64 x1)] w (Res W G H (fun _ Ho v => Ho = [] ∧ v = (.bool y))) := by
 refine calls_b (args := [v0, (.int .i64 x1)]) (N := 18) [.tmp 4] Tryd.func30 rfl rfl (Nat.le_of_ble_eq_true rfl) rfl fun a f => ?_
 unfold D.i at hd
 refine k_seq (k_region ?_)
 refine l_as f rfl rfl fun a f => l_nil (k_seq (k_seq (k_region ?_)))
 refine l_as f rfl rfl fun a f => l_nil ?_
 obtain ⟨aa, ab, hd⟩ := bind_some hd
 refine k_cut (fun a w => ∃ q_19' : Unit, aa = .inl q_19' ∧ ∃ (ac : GH), GLe G ac ∧ Fr a 18 [] ∧ Mem W ac w (H)) ?_ ?_
 ·refine k_block ?_
  refine k_loop (fun ad a w => ∃ ae : Int, ae = ad ∧ ∃ (af : GH), GLe G af ∧ Fr a 18 [(0, v0), (1, (.int .i64 x1)), (5, (.int .i64 ae))] ∧ Mem W af w (H)) ab ⟨_, rfl, _, (GLe.refl _), f.weak ⟨rfl, rfl, rfl, trivial⟩, m⟩ ?_
  clear ab f m
  rintro ad ag ah ai a w ⟨ae, rfl, af, aj, f, m⟩
  have h0 := rd1 aj h0
  refine k_seq (k_seq (k_region ?_))
  refine l_mv f rfl rfl fun a f => l_mv f rfl rfl fun a f => l_len Tryd.underlying28 f rfl rfl h0 fun a f => l_in f rfl rfl rfl b_lss fun a f => l_nil ?_
  rcases cond_some ah with ⟨ak, ah⟩ | ⟨ak, ah⟩
  ·refine k_true f rfl ak ?_
   refine k_skip ?_
   refine k_seq (k_block (k_seq (k_region ?_)))
   refine l_mv f rfl rfl fun a f => l_mv f rfl rfl fun a f => ?_
   obtain ⟨al, am, ah⟩ := bind_some ah
   refine l_at T28 f rfl rfl rfl h0 am fun an ao a ap aq f => ?_
   subst aq
   refine l_loadAt m Pl2 f rfl rfl ap fun a f => l_mv f rfl rfl fun a f => l_in f rfl rfl rfl b_eql fun a f => l_nil ?_
   rcases cond_some ah with ⟨ar, ah⟩ | ⟨ar, ah⟩
   ·refine k_true f rfl ar ?_
    refine k_seq (k_region ?_)
    refine l_as f rfl rfl fun a f => l_nil ?_
    refine k_ret ?_
    obtain rfl := sj ah
    obtain rfl := ai _ rfl
    obtain rfl := sj hd
    exact ⟨[(.bool true)], ⟨f.get _ _ rfl, trivial⟩, f.defers, _, [], aj, m, rfl, rfl⟩
   ·refine k_false f rfl ar ?_
    refine k_skip ?_
    refine k_region ?_
    refine l_mv f rfl rfl fun a f => l_in f rfl rfl rfl b_add fun a f => l_as f rfl rfl fun a f => l_nil ?_
    obtain rfl := sj ah
    exact ⟨_, rfl, _, rfl, _, aj, f.weak ⟨rfl, rfl, rfl, trivial⟩, m⟩
  ·refine k_false f rfl ak ?_
   refine k_exit rfl ?_
   obtain rfl := sj ah
   obtain rfl := ai _ rfl
   exact ⟨_, rfl, _, aj, f.weak trivial, m⟩
 ·rintro a w ⟨_, rfl, ac, au, f, m⟩
  refine k_seq (k_region ?_)
  refine l_as f rfl rfl fun a f => l_nil ?_
  refine k_ret ?_
  obtain rfl := sj hd
  exact ⟨[(.bool false)], ⟨f.get _ _ rfl, trivial⟩, f.defers, _, [], au, m, rfl, rfl⟩

theorem Wk.j {W w : World} {G : GH} {H : List Itm} {v0 : Value} {x0 : (List Int)} (m : Mem W G w (H)) (h0 : RSl (RI .i64) G v0 x0) {y : Bool} (hd : D.j x0 = some y) :
  Calls Tryd.prog 25 #[v0] w (Res W G H (fun _ Ho v => Ho = [] ∧ v = (.bool y))) := by
 refine calls_b (args := [v0]) (N := 33) [.tmp 2] Tryd.func25 rfl rfl (Nat.le_of_ble_eq_true rfl) rfl fun a f => ?_
 unfold D.j at hd
 refine k_seq (k_region ?_)
 refine l_as f rfl rfl fun a f => l_nil (k_seq (k_seq (k_region ?_)))
 refine l_mv f rfl rfl fun a f => l_len Tryd.underlying28 f rfl rfl h0 fun a f => ?_
 obtain ⟨aa, ab, hd⟩ := bind_some hd
 refine l_res f rfl rfl Tryd.call28 (Wk.c m  ab) fun ac ad ae w af m ag a f => ?_
 obtain ⟨rfl, rfl⟩ := ag
 have h0 := rd1 af h0
 refine l_op f rfl rfl rfl (r_not (f.eval rfl)) fun a f => l_nil ?_
 rcases cond_some hd with ⟨ah, hd⟩ | ⟨ah, hd⟩
 ·refine k_true f rfl ah ?_
  refine k_seq (k_region ?_)
  refine l_as f rfl rfl fun a f => l_nil ?_
  refine k_ret ?_
  obtain rfl := sj hd
  exact ⟨[(.bool false)], ⟨f.get _ _ rfl, trivial⟩, f.defers, _, [], af, m, rfl, rfl⟩
 ·refine k_false f rfl ah ?_
  refine k_skip ?_
  refine k_seq (k_seq (k_region ?_))
  refine l_as f rfl rfl fun a f => l_nil ?_
  obtain ⟨ai, aj, hd⟩ := bind_some hd
  refine k_cut (fun a w => ∃ q_97' : Unit, ai = .inl q_97' ∧ ∃ (ak : GH), GLe ad ak ∧ Fr a 33 [] ∧ Mem W ak w (H)) ?_ ?_
  ·refine k_block ?_
   refine k_loop (fun al a w => ∃ am : Int, am = al ∧ ∃ (an : GH), GLe ad an ∧ Fr a 33 [(0, v0), (3, (.int .i64 am))] ∧ Mem W an w (H)) aj ⟨_, rfl, _, (GLe.refl _), f.weak ⟨rfl, rfl, trivial⟩, m⟩ ?_
   clear aj f m
   rintro al ao ap aq a w ⟨am, rfl, an, ar, f, m⟩
   have h0 := rd1 ar h0
   refine k_seq (k_seq (k_region ?_))
   refine l_mv f rfl rfl fun a f => l_mv f rfl rfl fun a f => l_len Tryd.underlying28 f rfl rfl h0 fun a f => l_in f rfl rfl rfl b_lss fun a f => l_nil ?_
   rcases cond_some ap with ⟨au, ap⟩ | ⟨au, ap⟩
   ·refine k_true f rfl au ?_
    refine k_skip ?_
    refine k_seq (k_block (k_seq ?_))
    refine k_draw 19 Follows (by kernel_rfl) m ?_
    refine q_mv 0 19 rfl (by kernel_rfl) f rfl rfl rfl fun a f => q_mv 1 19 rfl (by kernel_rfl) f rfl rfl rfl fun a f => ?_
    obtain ⟨av, aw, ap⟩ := bind_some ap
    refine q_at (i := 2) 19 T28 h0 aw rfl (by kernel_rfl) rfl f rfl rfl rfl rfl fun ax ay a az aA f => ?_
    subst aA
    refine q_loadAt (i := 3) 19 Pl2 az rfl (by kernel_rfl) rfl f rfl rfl rfl fun a f => q_mv 4 19 rfl (by kernel_rfl) f rfl rfl rfl fun a f => q_len (i := 5) 19 Tryd.underlying28 h0 rfl (by kernel_rfl) rfl f rfl rfl rfl fun a f => q_p 6 19 rfl (by kernel_rfl) f rfl rfl rfl (fun _ => r_int (f.eval rfl) (f.eval rfl) b_sub) fun a f => ?_
    obtain ⟨aB, aC, ap⟩ := bind_some ap
    refine q_call (i := 7) 19 rfl (by kernel_rfl) rfl f rfl rfl rfl Tryd.call28 (fun _ _ w aD m => Wk.c m  aC) fun a f => q_p 8 19 rfl (by kernel_rfl) f rfl rfl rfl (fun _ => r_not (f.eval rfl)) fun a f => q_mv 9 19 rfl (by kernel_rfl) f rfl rfl rfl fun a f => ?_
    obtain ⟨aE, aF, ap⟩ := bind_some ap
    refine q_cut (fuel' := 0) (listed' := #[true, true, true, true, true, true, true, true, true, true, true, true, true, true, true, true, true, true, true]) (fun a => Fr a 33 [(0, v0), (3, (.int .i64 am)), (11, (.bool (decide (am < (x0.length : Int))))), (14, v0), (15, (.int .i64 am)), (16, ax), (17, (.int .i64 av)), (18, v0), (19, (.int .i64 (x0.length : Int))), (20, (.int .i64 (IntKind.i64.wrap ((x0.length : Int) - 1)))), (21, (.bool aB)), (22, (.bool (!aB))), (23, (.bool (!aB))), (32, (.bool aE))]) ?_ ?_
    ·intro a f
     refine q_end fun aG w aH m => ?_
     have h0 := rd1 aH h0
     have az := At.mono aH az
     refine l_nil ?_
     rcases cond_some ap with ⟨aI, ap⟩ | ⟨aI, ap⟩
     ·refine k_true f rfl aI ?_
      refine k_seq (k_region ?_)
      refine l_as f rfl rfl fun a f => l_nil ?_
      refine k_ret ?_
      obtain rfl := sj ap
      obtain rfl := aq _ rfl
      obtain rfl := sj hd
      exact ⟨[(.bool false)], ⟨f.get _ _ rfl, trivial⟩, f.defers, _, [], (GLe.trans af (GLe.trans ar aH)), m, rfl, rfl⟩
     ·refine k_false f rfl aI ?_
      refine k_skip ?_
      refine k_region ?_
      refine l_mv f rfl rfl fun a f => l_in f rfl rfl rfl b_add fun a f => l_as f rfl rfl fun a f => l_nil ?_
      obtain rfl := sj ap
      exact ⟨_, rfl, _, rfl, _, (GLe.trans ar aH), f.weak ⟨rfl, rfl, trivial⟩, m⟩
    ·intro aJ
     rcases cond_some aF with ⟨aK, aF⟩ | ⟨aK, aF⟩
     ·refine q_ng 10 19 rfl (by kernel_rfl) f rfl rfl aK rfl fun a f => ?_
      refine q_ng 11 19 rfl (by kernel_rfl) f rfl rfl aK rfl fun a f => q_ng 12 19 rfl (by kernel_rfl) f rfl rfl aK rfl fun a f => q_ng 13 19 rfl (by kernel_rfl) f rfl rfl aK rfl fun a f => q_ng 14 19 rfl (by kernel_rfl) f rfl rfl aK rfl fun a f => q_ng 15 19 rfl (by kernel_rfl) f rfl rfl aK rfl fun a f => q_ng 16 19 rfl (by kernel_rfl) f rfl rfl aK rfl fun a f => q_ng 17 19 rfl (by kernel_rfl) f rfl rfl aK rfl fun a f => q_p 18 19 rfl (by kernel_rfl) f rfl rfl rfl (fun _ => r_pickT (f.eval rfl) aK (f.eval rfl)) fun a f => ?_
      obtain rfl := sj aF
      exact aJ _ (f.weak ⟨rfl, rfl, rfl, rfl, rfl, rfl, rfl, rfl, rfl, rfl, rfl, rfl, rfl, rfl, trivial⟩)
     ·refine q_mv 10 19 rfl (by kernel_rfl) f (wanted_of f rfl rfl rfl aK) rfl rfl fun a f => ?_
      refine q_mv 11 19 rfl (by kernel_rfl) f (wanted_of f rfl rfl rfl aK) rfl rfl fun a f => ?_
      obtain ⟨aL, aM, aF⟩ := bind_some aF
      refine q_slice (i := 12) 19 T28 h0 aM rfl (by kernel_rfl) rfl f (wanted_of f rfl rfl rfl aK) rfl rfl (.inl ⟨rfl, rfl⟩) (.inr ⟨_, _, rfl, rfl⟩) fun aN a aO f => q_mv 13 19 rfl (by kernel_rfl) f (wanted_of f rfl rfl rfl aK) rfl rfl fun a f => q_mv 14 19 rfl (by kernel_rfl) f (wanted_of f rfl rfl rfl aK) rfl rfl fun a f => ?_
      obtain ⟨aP, aQ, aF⟩ := bind_some aF
      refine q_at (i := 15) 19 T28 h0 aQ rfl (by kernel_rfl) rfl f (wanted_of f rfl rfl rfl aK) rfl rfl rfl fun aR aS a aT aU f => ?_
      subst aU
      refine q_loadAt (i := 16) 19 Pl2 aT rfl (by kernel_rfl) rfl f (wanted_of f rfl rfl rfl aK) rfl rfl fun a f => ?_
      obtain ⟨aV, aW, aF⟩ := bind_some aF
      refine q_call (i := 17) 19 rfl (by kernel_rfl) rfl f (wanted_of f rfl rfl rfl aK) rfl rfl Tryd.call30 (fun _ _ w aX m => Wk.i m (rd1 aX aO) aW) fun a f => q_p 18 19 rfl (by kernel_rfl) f rfl rfl rfl (fun _ => r_pickF (f.eval rfl) aK (f.eval rfl)) fun a f => ?_
      obtain rfl := sj aF
      exact aJ _ (f.weak ⟨rfl, rfl, rfl, rfl, rfl, rfl, rfl, rfl, rfl, rfl, rfl, rfl, rfl, rfl, trivial⟩)
   ·refine k_false f rfl au ?_
    refine k_exit rfl ?_
    obtain rfl := sj ap
    obtain rfl := aq _ rfl
    exact ⟨_, rfl, _, ar, f.weak trivial, m⟩
  ·rintro a w ⟨_, rfl, ak, aY, f, m⟩
   refine k_seq (k_region ?_)
   refine l_as f rfl rfl fun a f => l_nil ?_
   refine k_ret ?_
   obtain rfl := sj hd
   exact ⟨[(.bool true)], ⟨f.get _ _ rfl, trivial⟩, f.defers, _, [], (GLe.trans af aY), m, rfl, rfl⟩

theorem Wk.F0 {W w : World} {G : GH} {H : List Itm} {v0 : Value} {v1 : Value} {x0 : (List Int)} {x1 : (List Int)} (m : Mem W G w (H)) (h0 : RSl (RI .i64) G v0 x0) (h1 : RSl (RI .i64) G v1 x1) {y : Bool} (hd : D.F0 x0 x1 = some y) :
  Calls Tryd.prog 15 #[v0, v1] w (Res W G H (fun _ Ho v => Ho = [] ∧ v = (.bool y))) := by
 refine calls_b (args := [v0, v1]) (N := 18) [.tmp 4] Tryd.func15 rfl rfl (Nat.le_of_ble_eq_true rfl) rfl fun a f => ?_
 unfold D.F0 at hd
 refine k_seq (k_region ?_)
 refine l_as f rfl rfl fun a f => l_nil (k_seq (k_region ?_))
 refine l_mv f rfl rfl fun a f => ?_
 obtain ⟨aa, ab, hd⟩ := bind_some hd
 refine l_res f rfl rfl Tryd.call25 (Wk.j m h0 ab) fun ac ad ae w af m ag a f => ?_
 obtain ⟨rfl, rfl⟩ := ag
 have h0 := rd1 af h0
 have h1 := rd1 af h1
 refine l_mv f rfl rfl fun a f => ?_
 obtain ⟨ah, ai, hd⟩ := bind_some hd
 refine l_cut 3 (fun a w => ∃ aj, GLe ad aj ∧ Mem W aj w (H) ∧ Fr a 18 [(0, v0), (1, v1), (5, v0), (6, (.bool aa)), (7, (.bool aa)), (10, (.bool ah))]) ?_ ?_
 ·rcases cond_some ai with ⟨ak, ai⟩ | ⟨ak, ai⟩
  ·refine l_run f rfl rfl ak ?_
   refine l_mv f rfl rfl fun a f => l_run f rfl rfl ak ?_
   obtain ⟨al, am, ai⟩ := bind_some ai
   refine l_res f rfl rfl Tryd.call25 (Wk.j m h1 am) fun an ao ap w aq m ar a f => ?_
   obtain ⟨rfl, rfl⟩ := ar
   have h0 := rd1 aq h0
   have h1 := rd1 aq h1
   refine l_op f rfl rfl rfl (r_pickT (f.eval rfl) ak (f.eval rfl)) fun a f => ?_
   obtain rfl := sj ai
   exact ⟨_, aq, m, f.weak ⟨rfl, rfl, rfl, rfl, rfl, rfl, trivial⟩⟩
  ·refine l_not' f rfl rfl rfl ak fun a f => ?_
   refine l_not' f rfl rfl rfl ak fun a f => l_op f rfl rfl rfl (r_pickF (f.eval rfl) ak (f.eval rfl)) fun a f => ?_
   obtain rfl := sj ai
   exact ⟨_, (GLe.refl _), m, f.weak ⟨rfl, rfl, rfl, rfl, rfl, rfl, trivial⟩⟩
 ·rintro a w ⟨aj, au, m, f⟩
  have h0 := rd1 au h0
  have h1 := rd1 au h1
  refine l_mv f rfl rfl fun a f => ?_
  refine l_cut 6 (fun a w => ∃ av, GLe aj av ∧ Mem W av w (H) ∧ Fr a 18 [(0, v0), (1, v1), (5, v0), (6, (.bool aa)), (7, (.bool aa)), (10, (.bool ah)), (11, (.bool ah)), (17, (.bool (ah && ((x0.length : Int) == (x1.length : Int)))))]) ?_ ?_
  ·rcases Bool.eq_false_or_eq_true ah with aw | aw
   ·refine l_run f rfl rfl aw ?_
    refine l_mv f rfl rfl fun a f => l_run f rfl rfl aw ?_
    refine l_len Tryd.underlying28 f rfl rfl h0 fun a f => l_run f rfl rfl aw ?_
    refine l_mv f rfl rfl fun a f => l_run f rfl rfl aw ?_
    refine l_len Tryd.underlying28 f rfl rfl h1 fun a f => l_run f rfl rfl aw ?_
    refine l_in f rfl rfl rfl b_eql fun a f => l_op f rfl rfl rfl (r_pickT (f.eval rfl) aw (f.eval rfl)) fun a f => ?_
    exact ⟨_, (GLe.refl _), m, f.weak ⟨rfl, rfl, rfl, rfl, rfl, rfl, rfl, by rw [aw]; rfl, trivial⟩⟩
   ·refine l_not' f rfl rfl rfl aw fun a f => ?_
    refine l_not' f rfl rfl rfl aw fun a f => l_not' f rfl rfl rfl aw fun a f => l_not' f rfl rfl rfl aw fun a f => l_not' f rfl rfl rfl aw fun a f => l_op f rfl rfl rfl (r_pickF (f.eval rfl) aw (f.eval rfl)) fun a f => ?_
    exact ⟨_, (GLe.refl _), m, f.weak ⟨rfl, rfl, rfl, rfl, rfl, rfl, rfl, by rw [aw]; rfl, trivial⟩⟩
  ·rintro a w ⟨av, ax, m, f⟩
   have h0 := rd1 ax h0
   have h1 := rd1 ax h1
   refine l_as f rfl rfl fun a f => l_nil ?_
   refine k_ret ?_
   obtain rfl := sj hd
   exact ⟨[(.bool (ah && ((x0.length : Int) == (x1.length : Int))))], ⟨f.get _ _ rfl, trivial⟩, f.defers, _, [], (GLe.trans af (GLe.trans au ax)), m, rfl, rfl⟩

theorem Wk.n {W w : World} {G : GH} {H : List Itm} {v0 : Value} {x0 : (List Int)} {x1 : Int} (m : Mem W G w (H)) (h0 : RSl (RI .i64) G v0 x0) {y : Int} (hd : D.n x0 x1 = some y) :
  Calls Tryd.prog 43 #[v0, (.int .i64 x1)] w (Res W G H (fun _ Ho v => Ho = [] ∧ v = (.int .i64 y))) := by
 refine calls_b (args := [v0, (.int .i64 x1)]) (N := 19) [.tmp 4] Tryd.func43 rfl rfl (Nat.le_of_ble_eq_true rfl) rfl fun a f => ?_
 unfold D.n at hd
 refine k_seq (k_region ?_)
 refine l_as f rfl rfl fun a f => l_nil (k_seq (k_seq (k_region ?_)))
 refine l_as f rfl rfl fun a f => l_nil ?_
 obtain ⟨aa, ab, hd⟩ := bind_some hd
 refine k_cut (fun a w => ∃ q_19' : Unit, aa = .inl q_19' ∧ ∃ (ac : GH), GLe G ac ∧ Fr a 19 [] ∧ Mem W ac w (H)) ?_ ?_
 ·refine k_block ?_
  refine k_loop (fun ad a w => ∃ ae : Int, ae = ad ∧ ∃ (af : GH), GLe G af ∧ Fr a 19 [(0, v0), (1, (.int .i64 x1)), (5, (.int .i64 ae))] ∧ Mem W af w (H)) ab ⟨_, rfl, _, (GLe.refl _), f.weak ⟨rfl, rfl, rfl, trivial⟩, m⟩ ?_
  clear ab f m
  rintro ad ag ah ai a w ⟨ae, rfl, af, aj, f, m⟩
  have h0 := rd1 aj h0
  refine k_seq (k_seq (k_region ?_))
  refine l_mv f rfl rfl fun a f => l_mv f rfl rfl fun a f => l_len Tryd.underlying28 f rfl rfl h0 fun a f => l_in f rfl rfl rfl b_lss fun a f => l_nil ?_
  rcases cond_some ah with ⟨ak, ah⟩ | ⟨ak, ah⟩
  ·refine k_true f rfl ak ?_
   refine k_skip ?_
   refine k_seq (k_block (k_seq (k_region ?_)))
   refine l_mv f rfl rfl fun a f => l_mv f rfl rfl fun a f => ?_
   obtain ⟨al, am, ah⟩ := bind_some ah
   refine l_at T28 f rfl rfl rfl h0 am fun an ao a ap aq f => ?_
   subst aq
   refine l_loadAt m Pl2 f rfl rfl ap fun a f => l_mv f rfl rfl fun a f => l_in f rfl rfl rfl b_eql fun a f => l_nil ?_
   rcases cond_some ah with ⟨ar, ah⟩ | ⟨ar, ah⟩
   ·refine k_true f rfl ar ?_
    refine k_seq (k_region ?_)
    refine l_mv f rfl rfl fun a f => l_as f rfl rfl fun a f => l_nil ?_
    refine k_ret ?_
    obtain rfl := sj ah
    obtain rfl := ai _ rfl
    obtain rfl := sj hd
    exact ⟨[(.int .i64 ae)], ⟨f.get _ _ rfl, trivial⟩, f.defers, _, [], aj, m, rfl, rfl⟩
   ·refine k_false f rfl ar ?_
    refine k_skip ?_
    refine k_region ?_
    refine l_mv f rfl rfl fun a f => l_in f rfl rfl rfl b_add fun a f => l_as f rfl rfl fun a f => l_nil ?_
    obtain rfl := sj ah
    exact ⟨_, rfl, _, rfl, _, aj, f.weak ⟨rfl, rfl, rfl, trivial⟩, m⟩
  ·refine k_false f rfl ak ?_
   refine k_exit rfl ?_
   obtain rfl := sj ah
   obtain rfl := ai _ rfl
   exact ⟨_, rfl, _, aj, f.weak trivial, m⟩
 ·rintro a w ⟨_, rfl, ac, au, f, m⟩
  refine k_seq (k_region ?_)
  refine l_as f rfl rfl fun a f => l_nil ?_
  refine k_ret ?_
  obtain rfl := sj hd
  exact ⟨[(.int .i64 (-1))], ⟨f.get _ _ rfl, trivial⟩, f.defers, _, [], au, m, rfl, rfl⟩

theorem Wk.Z {W w : World} {G : GH} {H : List Itm} {v0 : Value} {v1 : Value} {x0 : (List Int)} {x1 : (List Int)} {x2 : Int} {x3 : Int} (m : Mem W G w (H)) (h0 : RSl (RI .i64) G v0 x0) (h1 : RSl (RI .i64) G v1 x1) {y : Bool} (hd : D.Z x0 x1 x2 x3 = some y) :
  Calls Tryd.prog 26 #[v0, v1, (.int .i64 x2), (.int .i64 x3)] w (Res W G H (fun _ Ho v => Ho = [] ∧ v = (.bool y))) := by
 refine calls_b (args := [v0, v1, (.int .i64 x2), (.int .i64 x3)]) (N := 29) [.tmp 8] Tryd.func26 rfl rfl (Nat.le_of_ble_eq_true rfl) rfl fun a f => ?_
 unfold D.Z at hd
 refine k_seq (k_region ?_)
 refine l_as f rfl rfl fun a f => l_nil (k_seq (k_region ?_))
 refine l_mv f rfl rfl fun a f => l_mv f rfl rfl fun a f => l_in f rfl rfl rfl b_neq fun a f => l_mv f rfl rfl fun a f => ?_
 obtain ⟨aa, ab, hd⟩ := bind_some hd
 refine l_cut 16 (fun a w => ∃ ac, GLe G ac ∧ Mem W ac w (H) ∧ Fr a 29 [(0, v0), (1, v1), (2, (.int .i64 x2)), (3, (.int .i64 x3)), (9, (.int .i64 x2)), (10, (.int .i64 x3)), (11, (.bool (x2 != x3))), (12, (.bool (x2 != x3))), (28, (.bool aa))]) ?_ ?_
 ·rcases cond_some ab with ⟨ad, ab⟩ | ⟨ad, ab⟩
  ·refine l_run f rfl rfl ad ?_
   refine l_mv f rfl rfl fun a f => l_run f rfl rfl ad ?_
   refine l_mv f rfl rfl fun a f => l_run f rfl rfl ad ?_
   obtain ⟨ae, af, ab⟩ := bind_some ab
   refine l_res f rfl rfl Tryd.call43 (Wk.n m h0 af) fun ag ah ai w aj m ak a f => ?_
   obtain ⟨rfl, rfl⟩ := ak
   have h0 := rd1 aj h0
   have h1 := rd1 aj h1
   refine l_run f rfl rfl ad ?_
   refine l_mv f rfl rfl fun a f => l_run f rfl rfl ad ?_
   refine l_mv f rfl rfl fun a f => l_run f rfl rfl ad ?_
   obtain ⟨al, am, ab⟩ := bind_some ab
   refine l_res f rfl rfl Tryd.call43 (Wk.n m h0 am) fun an ao ap w aq m ar a f => ?_
   obtain ⟨rfl, rfl⟩ := ar
   have h0 := rd1 aq h0
   have h1 := rd1 aq h1
   refine l_run f rfl rfl ad ?_
   refine l_in f rfl rfl rfl b_lss fun a f => l_run f rfl rfl ad ?_
   refine l_mv f rfl rfl fun a f => l_run f rfl rfl ad ?_
   refine l_mv f rfl rfl fun a f => l_run f rfl rfl ad ?_
   obtain ⟨au, av, ab⟩ := bind_some ab
   refine l_res f rfl rfl Tryd.call43 (Wk.n m h1 av) fun aw ax ay w az m aA a f => ?_
   obtain ⟨rfl, rfl⟩ := aA
   have h0 := rd1 az h0
   have h1 := rd1 az h1
   refine l_run f rfl rfl ad ?_
   refine l_mv f rfl rfl fun a f => l_run f rfl rfl ad ?_
   refine l_mv f rfl rfl fun a f => l_run f rfl rfl ad ?_
   obtain ⟨aB, aC, ab⟩ := bind_some ab
   refine l_res f rfl rfl Tryd.call43 (Wk.n m h1 aC) fun aD aE aF w aG m aH a f => ?_
   obtain ⟨rfl, rfl⟩ := aH
   have h0 := rd1 aG h0
   have h1 := rd1 aG h1
   refine l_run f rfl rfl ad ?_
   refine l_in f rfl rfl rfl b_lss fun a f => l_run f rfl rfl ad ?_
   refine l_op f rfl rfl rfl (r_bool_neq (f.eval rfl) (f.eval rfl) Tryd.underlying4) fun a f => l_op f rfl rfl rfl (r_pickT (f.eval rfl) ad (f.eval rfl)) fun a f => ?_
   obtain rfl := sj ab
   exact ⟨_, (GLe.trans aj (GLe.trans aq (GLe.trans az aG))), m, f.weak ⟨rfl, rfl, rfl, rfl, rfl, rfl, rfl, rfl, rfl, trivial⟩⟩
  ·refine l_not' f rfl rfl rfl ad fun a f => ?_
   refine l_not' f rfl rfl rfl ad fun a f => l_not' f rfl rfl rfl ad fun a f => l_not' f rfl rfl rfl ad fun a f => l_not' f rfl rfl rfl ad fun a f => l_not' f rfl rfl rfl ad fun a f => l_not' f rfl rfl rfl ad fun a f => l_not' f rfl rfl rfl ad fun a f => l_not' f rfl rfl rfl ad fun a f => l_not' f rfl rfl rfl ad fun a f => l_not' f rfl rfl rfl ad fun a f => l_not' f rfl rfl rfl ad fun a f => l_not' f rfl rfl rfl ad fun a f => l_not' f rfl rfl rfl ad fun a f => l_not' f rfl rfl rfl ad fun a f => l_op f rfl rfl rfl (r_pickF (f.eval rfl) ad (f.eval rfl)) fun a f => ?_
   obtain rfl := sj ab
   exact ⟨_, (GLe.refl _), m, f.weak ⟨rfl, rfl, rfl, rfl, rfl, rfl, rfl, rfl, rfl, trivial⟩⟩
 ·rintro a w ⟨ac, aI, m, f⟩
  have h0 := rd1 aI h0
  have h1 := rd1 aI h1
  refine l_as f rfl rfl fun a f => l_nil ?_
  refine k_ret ?_
  obtain rfl := sj hd
  exact ⟨[(.bool aa)], ⟨f.get _ _ rfl, trivial⟩, f.defers, _, [], aI, m, rfl, rfl⟩

theorem Wk.d0 {W w : World} {G : GH} {H : List Itm} {v0 : Value} {v1 : Value} {x0 : (List Int)} {x1 : (List Int)} (m : Mem W G w (H)) (h0 : RSl (RI .i64) G v0 x0) (h1 : RSl (RI .i64) G v1 x1) {y : ((List (List Int)))} (hd : D.d0 x0 x1 = some y) :
  Calls Tryd.prog 16 #[v0, v1] w (Res W G H (fun G' Ho v => ∃ r0 : Value, ∃ i0 : Itm, Ho = [i0] ∧ v = (.agg #[r0]) ∧ Ow (RSl (RI .i64)) 28 G' i0 r0 y)) := by
 refine calls_b (args := [v0, v1]) (N := 39) [.cell 4 32] Tryd.func16 rfl rfl (Nat.le_of_ble_eq_true rfl) rfl fun a f => ?_
 unfold D.d0 at hd
 refine k_seq (k_region ?_)
 refine l_alloc (cs := [(.slice none 0 0)]) Tryd.zeroValue32 m f rfl rfl fun aa w a m f => l_nil (k_seq (k_region ?_))
 have ab : ∀ w, (Instr.build 32 #[]).run Tryd.prog w = .ok (.agg #[(.slice none 0 0)]) w := by intro w; simp [Instr.build, Instr.fill, cells_int, cells_bool, cells_string, cells_slice, cells_pointer, cells_agg]
 refine l_build f rfl rfl ab fun a f => l_alloc (cs := [(.slice none 0 0)]) Tryd.zeroValue32 m f rfl rfl fun ac w a m f => l_boxStore 0 0 (ds := [(.slice none 0 0)]) m Tryd.sizeOf32 f rfl rfl rfl (ones_cons rfl ones_nil) rfl (Nat.le_of_ble_eq_true rfl) rfl fun w m => l_nil (k_seq (k_seq (k_region ?_)))
 refine l_as f rfl rfl fun a f => l_nil ?_
 obtain ⟨ad, m, ae⟩ := Ow.nil (RSl (RI .i64)) 28 m
 obtain ⟨af, ag, hd⟩ := bind_some hd
 refine k_cut (fun a w => ∃ ah : List (List Int), ah = af ∧ ∃ (ai : GH) (aj : Value) (ak : Itm), GLe G ai ∧ Fr a 39 [(4, (.pointer (some ⟨aa, 0, none⟩))), (5, (.pointer (some ⟨ac, 0, none⟩)))] ∧ Mem W ai w (Itm.box aa 32 [(.slice none 0 0)] :: Itm.box ac 32 [aj] :: ak :: H) ∧ Ow (RSl (RI .i64)) 28 ai ak aj ah) ?_ ?_
 ·refine k_block ?_
  have m := m.front 1 rfl
  have m := m.front 2 rfl
  refine k_loop (fun al a w => ∃ am : Int, ∃ an : List (List Int), (am, an) = al ∧ ∃ (ao : GH) (ap : Value) (aq : Itm), GLe G ao ∧ Fr a 39 [(0, v0), (1, v1), (4, (.pointer (some ⟨aa, 0, none⟩))), (5, (.pointer (some ⟨ac, 0, none⟩))), (6, (.int .i64 am))] ∧ Mem W ao w (Itm.box aa 32 [(.slice none 0 0)] :: Itm.box ac 32 [ap] :: aq :: H) ∧ Ow (RSl (RI .i64)) 28 ao aq ap an) ag ⟨_, _, rfl, _, (.slice none 0 0), ad, (GLe.refl _), f.weak ⟨rfl, rfl, rfl, rfl, rfl, trivial⟩, m, ae⟩ ?_
  clear ag f m
  rintro al ar au av a w ⟨am, an, rfl, ao, ap, aq, aw, f, m, ax⟩
  have h0 := rd1 aw h0
  have h1 := rd1 aw h1
  refine k_seq (k_seq (k_region ?_))
  refine l_mv f rfl rfl fun a f => l_mv f rfl rfl fun a f => l_len Tryd.underlying28 f rfl rfl h0 fun a f => l_in f rfl rfl rfl b_lss fun a f => l_nil ?_
  rcases cond_some au with ⟨ay, au⟩ | ⟨ay, au⟩
  ·refine k_true f rfl ay ?_
   refine k_skip ?_
   refine k_seq (k_block (k_seq (k_region ?_)))
   refine l_slit (R := (RI .i64)) (xs := ([] : List Int)) (RI.one _) m T28 f rfl rfl rfl (by decide) (All2.nil _) fun az aA w a m aB f => l_as f rfl rfl fun a f => l_nil (k_seq (k_seq (k_region ?_)))
   refine l_as f rfl rfl fun a f => l_nil ?_
   obtain ⟨aC, aD, au⟩ := bind_some au
   refine k_cut (fun a w => ∃ aE : List Int, aE = aC ∧ ∃ (aF : GH) (aG : Value) (aH : Itm), GLe ao aF ∧ Fr a 39 [(0, v0), (1, v1), (4, (.pointer (some ⟨aa, 0, none⟩))), (5, (.pointer (some ⟨ac, 0, none⟩))), (6, (.int .i64 am)), (7, aG)] ∧ Mem W aF w (Itm.box aa 32 [(.slice none 0 0)] :: Itm.box ac 32 [ap] :: aH :: aq :: H) ∧ Ow (RI .i64) 2 aF aH aG aE) ?_ ?_
   ·refine k_block ?_
    have m := m.front 2 rfl
    have m : Mem W ao w (Itm.box aa 32 [(.slice none 0 0)] :: Itm.box ac 32 [ap] :: az :: aq :: H) := m.front 2 rfl
    refine k_loop (fun aI a w => ∃ aJ : List Int, ∃ aK : Int, (aJ, aK) = aI ∧ ∃ (aL : GH) (aM : Value) (aN : Itm), GLe ao aL ∧ Fr a 39 [(0, v0), (1, v1), (4, (.pointer (some ⟨aa, 0, none⟩))), (5, (.pointer (some ⟨ac, 0, none⟩))), (6, (.int .i64 am)), (7, aM), (8, (.int .i64 aK))] ∧ Mem W aL w (Itm.box aa 32 [(.slice none 0 0)] :: Itm.box ac 32 [ap] :: aN :: aq :: H) ∧ Ow (RI .i64) 2 aL aN aM aJ) aD ⟨_, _, rfl, _, aA, az, (GLe.refl _), f.weak ⟨rfl, rfl, rfl, rfl, rfl, rfl, rfl, trivial⟩, m, aB⟩ ?_
    clear aD f m
    rintro aI aO aP aQ a w ⟨aJ, aK, rfl, aL, aM, aN, aR, f, m, aS⟩
    have h0 := rd1 aR h0
    have h1 := rd1 aR h1
    have ax := Ow.mono (RSl.mono (RI.mono _)) aR ax
    refine k_seq (k_seq (k_region ?_))
    refine l_mv f rfl rfl fun a f => l_mv f rfl rfl fun a f => l_len Tryd.underlying28 f rfl rfl h0 fun a f => l_in f rfl rfl rfl b_lss fun a f => l_nil ?_
    rcases cond_some aP with ⟨aT, aP⟩ | ⟨aT, aP⟩
    ·refine k_true f rfl aT ?_
     refine k_skip ?_
     refine k_seq (k_block (k_seq (k_region ?_)))
     refine l_mv f rfl rfl fun a f => l_mv f rfl rfl fun a f => l_mv f rfl rfl fun a f => l_mv f rfl rfl fun a f => ?_
     obtain ⟨aU, aV, aP⟩ := bind_some aP
     refine l_res f rfl rfl Tryd.call26 (Wk.Z m h0 h1 aV) fun aW aX aY w aZ m a0 a f => ?_
     obtain ⟨rfl, rfl⟩ := a0
     have h0 := rd1 aZ h0
     have h1 := rd1 aZ h1
     have aS := od1 aZ aS
     have ax := Ow.mono (RSl.mono (RI.mono _)) aZ ax
     refine l_nil ?_
     rcases cond_some aP with ⟨a1, aP⟩ | ⟨a1, aP⟩
     ·refine k_true f rfl a1 ?_
      refine k_region ?_
      refine l_mv f rfl rfl fun a f => l_mv f rfl rfl fun a f => l_slit (R := (RI .i64)) (xs := ([aK] : List Int)) (RI.one _) m T28 f rfl rfl rfl (by decide) (All2.cons rfl (All2.nil _)) fun a2 a3 w a m a4 f => ?_
      obtain ⟨a5, a6, aP⟩ := bind_some aP
      refine l_append (RI.one _) 3 m aS rfl T28 rfl (by decide) f rfl rfl rfl (Ow.src (j := 0) a4 m rfl) a6 fun a7 a8 w a m a9 f => l_as f rfl rfl fun a f => l_nil (k_region ?_)
      refine l_mv f rfl rfl fun a f => l_in f rfl rfl rfl b_add fun a f => l_as f rfl rfl fun a f => l_nil ?_
      have m := m.front 4 rfl
      have m := m.front 4 rfl
      have m : Mem W aX w (Itm.box ac 32 [ap] :: a7 :: aq :: a2 :: Itm.box aa 32 [(.slice none 0 0)] :: H) := m.front 4 rfl
      have m := m.front 4 rfl
      have m : Mem W aX w (Itm.box aa 32 [(.slice none 0 0)] :: Itm.box ac 32 [ap] :: a7 :: aq :: H) := m.eraseAt 4
      obtain rfl := sj aP
      exact ⟨_, rfl, _, _, rfl, _, a8, a7, (GLe.trans aR aZ), f.weak ⟨rfl, rfl, rfl, rfl, rfl, rfl, rfl, trivial⟩, m, a9⟩
     ·refine k_false f rfl a1 ?_
      refine k_skip ?_
      refine k_region ?_
      refine l_mv f rfl rfl fun a f => l_in f rfl rfl rfl b_add fun a f => l_as f rfl rfl fun a f => l_nil ?_
      obtain rfl := sj aP
      exact ⟨_, rfl, _, _, rfl, _, aM, aN, (GLe.trans aR aZ), f.weak ⟨rfl, rfl, rfl, rfl, rfl, rfl, rfl, trivial⟩, m, aS⟩
    ·refine k_false f rfl aT ?_
     refine k_exit rfl ?_
     obtain rfl := sj aP
     obtain rfl := aQ _ rfl
     exact ⟨_, rfl, _, aM, aN, aR, f.weak ⟨rfl, rfl, rfl, rfl, rfl, rfl, trivial⟩, m, aS⟩
   ·rintro a w ⟨aE, rfl, aF, aG, aH, ba, f, m, bb⟩
    have h0 := rd1 ba h0
    have h1 := rd1 ba h1
    have ax := Ow.mono (RSl.mono (RI.mono _)) ba ax
    refine k_region ?_
    refine l_fieldAddr Tryd.underlying32 rfl Tryd.sizeOf30 (by decide) f rfl rfl fun a f => l_boxCell 1 0 m Pl30 f rfl rfl rfl rfl fun a f => l_mv f rfl rfl fun a f => ?_
    have m : Mem W aF w (aH :: Itm.box aa 32 [(.slice none 0 0)] :: Itm.box ac 32 [ap] :: aq :: H) := m.front 2 rfl
    obtain ⟨bc, bd, m, be⟩ := Ow.stamp (RI.mono _) bb m
    have h0 := rd1 bd h0
    have h1 := rd1 bd h1
    have ax := Ow.mono (RSl.mono (RI.mono _)) bd ax
    refine l_slit (R := (RSl (RI .i64))) (xs := ([aE] : List (List Int))) (RSl.one _) m T30 f rfl rfl rfl (by decide) (All2.cons be (All2.nil _)) fun bf bg w a m bh f => ?_
    obtain ⟨bi, bj, au⟩ := bind_some au
    refine l_append (RSl.one _) 3 m ax rfl T30 rfl (by decide) f rfl rfl rfl (Ow.src (j := 0) bh m rfl) bj fun bk bl w a m bm f => l_fieldAddr Tryd.underlying32 rfl Tryd.sizeOf30 (by decide) f rfl rfl fun a f => l_boxStore 2 0 (ds := [bl]) m Tryd.sizeOf30 f rfl rfl (Ow.cells 3 m bm rfl) (ones_cons (Ow.one1 3 m bm rfl) ones_nil) rfl (Nat.le_of_ble_eq_true rfl) rfl fun w m => l_nil (k_region ?_)
    refine l_mv f rfl rfl fun a f => l_in f rfl rfl rfl b_add fun a f => l_as f rfl rfl fun a f => l_nil ?_
    have m := m.front 3 rfl
    have m := m.front 3 rfl
    have m : Mem W bc w (Itm.box aa 32 [(.slice none 0 0)] :: Itm.box ac 32 [bl] :: bk :: bf :: H) := m.front 3 rfl
    have m := m.eraseAt 3
    obtain rfl := sj au
    exact ⟨_, rfl, _, _, rfl, _, bl, bk, (GLe.trans aw (GLe.trans ba bd)), f.weak ⟨rfl, rfl, rfl, rfl, rfl, trivial⟩, m, bm⟩
  ·refine k_false f rfl ay ?_
   refine k_exit rfl ?_
   obtain rfl := sj au
   obtain rfl := av _ rfl
   exact ⟨_, rfl, _, ap, aq, aw, f.weak ⟨rfl, rfl, trivial⟩, m, ax⟩
 ·rintro a w ⟨ah, rfl, ai, aj, ak, bn, f, m, bo⟩
  refine k_seq (k_region ?_)
  refine l_boxAgg 1 0 (ds := [aj]) m Ag32 f rfl rfl rfl rfl rfl fun a f => l_boxStore 0 0 (ds := [aj]) m Tryd.sizeOf32 f rfl rfl rfl (ones_cons (Ow.one1 2 m bo rfl) ones_nil) rfl (Nat.le_of_ble_eq_true rfl) rfl fun w m => l_nil ?_
  refine k_ret ?_
  have bp := rr_agg (P := Tryd.prog) 0 m Ag32 f (s := 4) rfl rfl rfl
  have m := m.front 2 rfl
  have m := m.eraseAt 2
  have m := m.eraseAt 1
  obtain rfl := sj hd
  exact ⟨[(.agg #[aj])], ⟨bp, trivial⟩, f.defers, _, [ak], bn, m, _, _, rfl, rfl, bo⟩

theorem Wk.U {W w : World} {G : GH} {H : List Itm} {v0 : Value} {v1 : Value} {x0 : (List Int)} {x1 : (List Int)} (m : Mem W G w (H)) (h0 : RSl (RI .i64) G v0 x0) (h1 : RSl (RI .i64) G v1 x1) {y : ((List (List Int))) × Bool} (hd : D.U x0 x1 = some y) :
  Calls Tryd.prog 8 #[v0, v1] w (Res W G H (fun G' Ho v => ∃ r0 : Value, ∃ i0 : Itm, Ho = [i0] ∧ v = .tuple #[(.agg #[r0]), (.bool y.2)] ∧ Ow (RSl (RI .i64)) 28 G' i0 r0 y.1)) := by
 refine calls_b (args := [v0, v1]) (N := 14) [.cell 4 32, .tmp 5] Tryd.func8 rfl rfl (Nat.le_of_ble_eq_true rfl) rfl fun a f => ?_
 unfold D.U at hd
 refine k_seq (k_region ?_)
 refine l_alloc (cs := [(.slice none 0 0)]) Tryd.zeroValue32 m f rfl rfl fun aa w a m f => l_as f rfl rfl fun a f => l_nil (k_seq (k_seq (k_region ?_)))
 refine l_mv f rfl rfl fun a f => l_mv f rfl rfl fun a f => ?_
 obtain ⟨ab, ac, hd⟩ := bind_some hd
 refine l_res f rfl rfl Tryd.call15 (Wk.F0 m h0 h1 ac) fun ad ae af w ag m ah a f => ?_
 obtain ⟨rfl, rfl⟩ := ah
 have h0 := rd1 ag h0
 have h1 := rd1 ag h1
 refine l_op f rfl rfl rfl (r_not (f.eval rfl)) fun a f => l_nil ?_
 rcases cond_some hd with ⟨ai, hd⟩ | ⟨ai, hd⟩
 ·refine k_true f rfl ai ?_
  refine k_seq (k_region ?_)
  have aj : ∀ w, (Instr.build 32 #[]).run Tryd.prog w = .ok (.agg #[(.slice none 0 0)]) w := by intro w; simp [Instr.build, Instr.fill, cells_int, cells_bool, cells_string, cells_slice, cells_pointer, cells_agg]
  refine l_build f rfl rfl aj fun a f => l_boxStore 0 0 (ds := [(.slice none 0 0)]) m Tryd.sizeOf32 f rfl rfl rfl (ones_cons rfl ones_nil) rfl (Nat.le_of_ble_eq_true rfl) rfl fun w m => l_as f rfl rfl fun a f => l_nil ?_
  refine k_ret ?_
  obtain ⟨ak, m, al⟩ := Ow.nil (RSl (RI .i64)) 28 m
  have am := rr_agg (P := Tryd.prog) 1 m Ag32 f (s := 4) rfl rfl rfl
  have m := m.eraseAt 1
  obtain rfl := sj hd
  exact ⟨[(.agg #[(.slice none 0 0)]), (.bool false)], ⟨am, f.get _ _ rfl, trivial⟩, f.defers, _, [ak], ag, m, _, _, rfl, rfl, al⟩
 ·refine k_false f rfl ai ?_
  refine k_skip ?_
  refine k_seq (k_region ?_)
  refine l_mv f rfl rfl fun a f => l_mv f rfl rfl fun a f => ?_
  obtain ⟨an, ao, hd⟩ := bind_some hd
  refine l_res f rfl rfl Tryd.call16 (Wk.d0 m h0 h1 ao) fun ap aq ar w au m av a f => ?_
  obtain ⟨aw, ax, rfl, rfl, ay⟩ := av
  have h0 := rd1 au h0
  have h1 := rd1 au h1
  refine l_boxStore 1 0 (ds := [aw]) m Tryd.sizeOf32 f rfl rfl rfl (ones_cons (Ow.one1 0 m ay rfl) ones_nil) rfl (Nat.le_of_ble_eq_true rfl) rfl fun w m => l_as f rfl rfl fun a f => l_nil ?_
  refine k_ret ?_
  have az := rr_agg (P := Tryd.prog) 1 m Ag32 f (s := 4) rfl rfl rfl
  have m := m.eraseAt 1
  obtain rfl := sj hd
  exact ⟨[(.agg #[aw]), (.bool true)], ⟨az, f.get _ _ rfl, trivial⟩, f.defers, _, [ax], (GLe.trans ag au), m, _, _, rfl, rfl, ay⟩

theorem Wk.g {W w : World} {G : GH} {H : List Itm} {v0_0 : Value} {x0_0 : (List (List Int))} (m : Mem W G w (H)) (h0_0 : RSl (RSl (RI .i64)) G v0_0 x0_0) {y : Int} (hd : D.g x0_0 = some y) :
  Calls Tryd.prog 27 #[(.agg #[v0_0])] w (Res W G H (fun _ Ho v => Ho = [] ∧ v = (.int .i64 y))) := by
 refine calls_b (args := [(.agg #[v0_0])]) (N := 6) [.tmp 2] Tryd.func27 rfl rfl (Nat.le_of_ble_eq_true rfl) rfl fun a f => ?_
 unfold D.g at hd
 refine k_seq (k_region ?_)
 refine l_box (cs := [v0_0]) m f rfl rfl rfl fun aa w a m f => l_as f rfl rfl fun a f => l_nil (k_seq (k_region ?_))
 refine l_fieldAddr Tryd.underlying32 rfl Tryd.sizeOf30 (by decide) f rfl rfl fun a f => l_boxCell 0 0 m Pl30 f rfl rfl rfl rfl fun a f => l_len Tryd.underlying30 f rfl rfl h0_0 fun a f => l_as f rfl rfl fun a f => l_nil ?_
 refine k_ret ?_
 have m : Mem W G w H := Mem.drop (H' := [Itm.box aa 32 [v0_0]]) m
 obtain rfl := sj hd
 exact ⟨[(.int .i64 (x0_0.length : Int))], ⟨f.get _ _ rfl, trivial⟩, f.defers, _, [], (GLe.refl _), m, rfl, rfl⟩

theorem Wk.i0 {W w : World} {G : GH} {H : List Itm} {v0 : Value} {x0 : (List Int)} {x1 : Int} (m : Mem W G w (H)) (h0 : RSl (RI .i64) G v0 x0) {y : Bool} (hd : D.i0 x0 x1 = some y) :
  Calls Tryd.prog 29 #[v0, (.int .i64 x1)] w (Res W G H (fun _ Ho v => Ho = [] ∧ v = (.bool y))) := by
 refine calls_b (args := [v0, (.int .i64 x1)]) (N := 40) [.tmp 4] Tryd.func29 rfl rfl (Nat.le_of_ble_eq_true rfl) rfl fun a f => ?_
 unfold D.i0 at hd
 refine k_seq (k_region ?_)
 refine l_as f rfl rfl fun a f => l_nil (k_seq (k_seq (k_region ?_)))
 refine l_mv f rfl rfl fun a f => l_len Tryd.underlying28 f rfl rfl h0 fun a f => l_mv f rfl rfl fun a f => l_in f rfl rfl rfl b_gtr fun a f => l_nil ?_
 rcases cond_some hd with ⟨aa, hd⟩ | ⟨aa, hd⟩
 ·refine k_true f rfl aa ?_
  refine k_seq (k_region ?_)
  refine l_as f rfl rfl fun a f => l_nil ?_
  refine k_ret ?_
  obtain rfl := sj hd
  exact ⟨[(.bool false)], ⟨f.get _ _ rfl, trivial⟩, f.defers, _, [], (GLe.refl _), m, rfl, rfl⟩
 ·refine k_false f rfl aa ?_
  refine k_skip ?_
  refine k_seq (k_seq (k_region ?_))
  refine l_as f rfl rfl fun a f => l_nil ?_
  obtain ⟨ab, ac, hd⟩ := bind_some hd
  refine k_cut (fun a w => ∃ q_150' : Unit, ab = .inl q_150' ∧ ∃ (ad : GH), GLe G ad ∧ Fr a 40 [] ∧ Mem W ad w (H)) ?_ ?_
  ·refine k_block ?_
   refine k_loop (fun ae a w => ∃ af : Int, af = ae ∧ ∃ (ag : GH), GLe G ag ∧ Fr a 40 [(0, v0), (1, (.int .i64 x1)), (5, (.int .i64 af))] ∧ Mem W ag w (H)) ac ⟨_, rfl, _, (GLe.refl _), f.weak ⟨rfl, rfl, rfl, trivial⟩, m⟩ ?_
   clear ac f m
   rintro ae ah ai aj a w ⟨af, rfl, ag, ak, f, m⟩
   have h0 := rd1 ak h0
   refine k_seq (k_seq (k_region ?_))
   refine l_mv f rfl rfl fun a f => l_mv f rfl rfl fun a f => l_len Tryd.underlying28 f rfl rfl h0 fun a f => l_in f rfl rfl rfl b_lss fun a f => l_nil ?_
   rcases cond_some ai with ⟨al, ai⟩ | ⟨al, ai⟩
   ·refine k_true f rfl al ?_
    refine k_skip ?_
    refine k_seq (k_block (k_seq ?_))
    refine k_draw 24 Follows (by kernel_rfl) m ?_
    refine q_mv 0 24 rfl (by kernel_rfl) f rfl rfl rfl fun a f => q_mv 1 24 rfl (by kernel_rfl) f rfl rfl rfl fun a f => ?_
    obtain ⟨am, an, ai⟩ := bind_some ai
    refine q_at (i := 2) 24 T28 h0 an rfl (by kernel_rfl) rfl f rfl rfl rfl rfl fun ao ap a aq ar f => ?_
    subst ar
    refine q_loadAt (i := 3) 24 Pl2 aq rfl (by kernel_rfl) rfl f rfl rfl rfl fun a f => q_mv 4 24 rfl (by kernel_rfl) f rfl rfl rfl fun a f => q_p 5 24 rfl (by kernel_rfl) f rfl rfl rfl (fun _ => r_int (f.eval rfl) (f.eval rfl) b_sub) fun a f => ?_
    obtain ⟨au, av, ai⟩ := bind_some ai
    refine q_call (i := 6) 24 rfl (by kernel_rfl) rfl f rfl rfl rfl Tryd.call28 (fun _ _ w aw m => Wk.c m  av) fun a f => q_p 7 24 rfl (by kernel_rfl) f rfl rfl rfl (fun _ => r_not (f.eval rfl)) fun a f => q_mv 8 24 rfl (by kernel_rfl) f rfl rfl rfl fun a f => ?_
    obtain ⟨ax, ay, ai⟩ := bind_some ai
    refine q_cut (fuel' := 0) (listed' := #[true, true, true, true, true, true, true, true, true, true, true, true, true, true, true, true, true, true, true, true, true, true, true, true]) (fun a => Fr a 40 [(0, v0), (1, (.int .i64 x1)), (5, (.int .i64 af)), (13, (.bool (decide (af < (x0.length : Int))))), (16, v0), (17, (.int .i64 af)), (18, ao), (19, (.int .i64 am)), (20, (.int .i64 x1)), (21, (.int .i64 (IntKind.i64.wrap (x1 - 1)))), (22, (.bool au)), (23, (.bool (!au))), (24, (.bool (!au))), (39, (.bool ax))]) ?_ ?_
    ·intro a f
     refine q_end fun az w aA m => ?_
     have h0 := rd1 aA h0
     have aq := At.mono aA aq
     refine l_nil ?_
     rcases cond_some ai with ⟨aB, ai⟩ | ⟨aB, ai⟩
     ·refine k_true f rfl aB ?_
      refine k_seq (k_region ?_)
      refine l_as f rfl rfl fun a f => l_nil ?_
      refine k_ret ?_
      obtain rfl := sj ai
      obtain rfl := aj _ rfl
      obtain rfl := sj hd
      exact ⟨[(.bool false)], ⟨f.get _ _ rfl, trivial⟩, f.defers, _, [], (GLe.trans ak aA), m, rfl, rfl⟩
     ·refine k_false f rfl aB ?_
      refine k_skip ?_
      refine k_region ?_
      refine l_mv f rfl rfl fun a f => l_in f rfl rfl rfl b_add fun a f => l_as f rfl rfl fun a f => l_nil ?_
      obtain rfl := sj ai
      exact ⟨_, rfl, _, rfl, _, (GLe.trans ak aA), f.weak ⟨rfl, rfl, rfl, trivial⟩, m⟩
    ·intro aC
     rcases cond_some ay with ⟨aD, ay⟩ | ⟨aD, ay⟩
     ·refine q_ng 9 24 rfl (by kernel_rfl) f rfl rfl aD rfl fun a f => ?_
      refine q_ng 10 24 rfl (by kernel_rfl) f rfl rfl aD rfl fun a f => q_ng 11 24 rfl (by kernel_rfl) f rfl rfl aD rfl fun a f => q_nu 12 24 rfl (by kernel_rfl) f rfl rfl rfl fun a f => q_nu 13 24 rfl (by kernel_rfl) f rfl rfl rfl fun a f => q_nu 14 24 rfl (by kernel_rfl) f rfl rfl rfl fun a f => q_nu 15 24 rfl (by kernel_rfl) f rfl rfl rfl fun a f => q_nu 16 24 rfl (by kernel_rfl) f rfl rfl rfl fun a f => q_nu 17 24 rfl (by kernel_rfl) f rfl rfl rfl fun a f => q_nu 18 24 rfl (by kernel_rfl) f rfl rfl rfl fun a f => q_nu 19 24 rfl (by kernel_rfl) f rfl rfl rfl fun a f => q_nu 20 24 rfl (by kernel_rfl) f rfl rfl rfl fun a f => q_nu 21 24 rfl (by kernel_rfl) f rfl rfl rfl fun a f => q_ng 22 24 rfl (by kernel_rfl) f rfl rfl aD rfl fun a f => q_p 23 24 rfl (by kernel_rfl) f rfl rfl rfl (fun _ => r_pickT (f.eval rfl) aD (f.eval rfl)) fun a f => ?_
      obtain rfl := sj ay
      exact aC _ (f.weak ⟨rfl, rfl, rfl, rfl, rfl, rfl, rfl, rfl, rfl, rfl, rfl, rfl, rfl, rfl, trivial⟩)
     ·refine q_mv 9 24 rfl (by kernel_rfl) f (wanted_of f rfl rfl rfl aD) rfl rfl fun a f => ?_
      refine q_p 10 24 rfl (by kernel_rfl) f (wanted_of f rfl rfl rfl aD) rfl rfl (fun _ => r_int (f.eval rfl) (f.eval rfl) b_gtr) fun a f => q_mv 11 24 rfl (by kernel_rfl) f (wanted_of f rfl rfl rfl aD) rfl rfl fun a f => ?_
      obtain ⟨aE, aF, ay⟩ := bind_some ay
      refine q_cut (fuel' := 1) (listed' := #[true, true, true, true, true, true, true, true, true, true, true, true, true, true, true, true, true, true, true, true, true, true, true, false]) (fun a => Fr a 40 [(0, v0), (1, (.int .i64 x1)), (5, (.int .i64 af)), (13, (.bool (decide (af < (x0.length : Int))))), (16, v0), (17, (.int .i64 af)), (18, ao), (19, (.int .i64 am)), (20, (.int .i64 x1)), (21, (.int .i64 (IntKind.i64.wrap (x1 - 1)))), (22, (.bool au)), (23, (.bool (!au))), (24, (.bool (!au))), (25, (.int .i64 af)), (26, (.bool (decide ((0 : Int) < af)))), (27, (.bool (decide ((0 : Int) < af)))), (38, (.bool aE))]) ?_ ?_
      ·intro a f
       refine q_p 23 24 rfl (by kernel_rfl) f rfl rfl rfl (fun _ => r_pickF (f.eval rfl) aD (f.eval rfl)) fun a f => ?_
       obtain rfl := sj ay
       exact aC _ (f.weak ⟨rfl, rfl, rfl, rfl, rfl, rfl, rfl, rfl, rfl, rfl, rfl, rfl, rfl, rfl, trivial⟩)
      ·intro aG
       rcases cond_some aF with ⟨aH, aF⟩ | ⟨aH, aF⟩
       ·refine q_mv 12 24 rfl (by kernel_rfl) f (wanted_of f rfl rfl rfl aH) rfl rfl fun a f => ?_
        refine q_mv 13 24 rfl (by kernel_rfl) f (wanted_of f rfl rfl rfl aH) rfl rfl fun a f => ?_
        obtain ⟨aI, aJ, aF⟩ := bind_some aF
        refine q_at (i := 14) 24 T28 h0 aJ rfl (by kernel_rfl) rfl f (wanted_of f rfl rfl rfl aH) rfl rfl rfl fun aK aL a aM aN f => ?_
        subst aN
        refine q_loadAt (i := 15) 24 Pl2 aM rfl (by kernel_rfl) rfl f (wanted_of f rfl rfl rfl aH) rfl rfl fun a f => q_mv 16 24 rfl (by kernel_rfl) f (wanted_of f rfl rfl rfl aH) rfl rfl fun a f => q_mv 17 24 rfl (by kernel_rfl) f (wanted_of f rfl rfl rfl aH) rfl rfl fun a f => q_p 18 24 rfl (by kernel_rfl) f (wanted_of f rfl rfl rfl aH) rfl rfl (fun _ => r_int (f.eval rfl) (f.eval rfl) b_sub) fun a f => ?_
        obtain ⟨aO, aP, aF⟩ := bind_some aF
        refine q_at (i := 19) 24 T28 h0 aP rfl (by kernel_rfl) rfl f (wanted_of f rfl rfl rfl aH) rfl rfl rfl fun aQ aR a aS aT f => ?_
        subst aT
        refine q_loadAt (i := 20) 24 Pl2 aS rfl (by kernel_rfl) rfl f (wanted_of f rfl rfl rfl aH) rfl rfl fun a f => q_p 21 24 rfl (by kernel_rfl) f (wanted_of f rfl rfl rfl aH) rfl rfl (fun _ => r_int (f.eval rfl) (f.eval rfl) b_leq) fun a f => q_p 22 24 rfl (by kernel_rfl) f (wanted_of f rfl rfl rfl aD) rfl rfl (fun _ => r_pickT (f.eval rfl) aH (f.eval rfl)) fun a f => ?_
        obtain rfl := sj aF
        exact aG _ (f.weak ⟨rfl, rfl, rfl, rfl, rfl, rfl, rfl, rfl, rfl, rfl, rfl, rfl, rfl, rfl, rfl, rfl, rfl, trivial⟩)
       ·refine q_ng 12 24 rfl (by kernel_rfl) f rfl rfl aH rfl fun a f => ?_
        refine q_ng 13 24 rfl (by kernel_rfl) f rfl rfl aH rfl fun a f => q_ng 14 24 rfl (by kernel_rfl) f rfl rfl aH rfl fun a f => q_ng 15 24 rfl (by kernel_rfl) f rfl rfl aH rfl fun a f => q_ng 16 24 rfl (by kernel_rfl) f rfl rfl aH rfl fun a f => q_ng 17 24 rfl (by kernel_rfl) f rfl rfl aH rfl fun a f => q_ng 18 24 rfl (by kernel_rfl) f rfl rfl aH rfl fun a f => q_ng 19 24 rfl (by kernel_rfl) f rfl rfl aH rfl fun a f => q_ng 20 24 rfl (by kernel_rfl) f rfl rfl aH rfl fun a f => q_ng 21 24 rfl (by kernel_rfl) f rfl rfl aH rfl fun a f => q_p 22 24 rfl (by kernel_rfl) f (wanted_of f rfl rfl rfl aD) rfl rfl (fun _ => r_pickF (f.eval rfl) aH (f.eval rfl)) fun a f => ?_
        obtain rfl := sj aF
        exact aG _ (f.weak ⟨rfl, rfl, rfl, rfl, rfl, rfl, rfl, rfl, rfl, rfl, rfl, rfl, rfl, rfl, rfl, rfl, rfl, trivial⟩)
   ·refine k_false f rfl al ?_
    refine k_exit rfl ?_
    obtain rfl := sj ai
    obtain rfl := aj _ rfl
    exact ⟨_, rfl, _, ak, f.weak trivial, m⟩
  ·rintro a w ⟨_, rfl, ad, aU, f, m⟩
   refine k_seq (k_region ?_)
   refine l_as f rfl rfl fun a f => l_nil ?_
   refine k_ret ?_
   obtain rfl := sj hd
   exact ⟨[(.bool true)], ⟨f.get _ _ rfl, trivial⟩, f.defers, _, [], aU, m, rfl, rfl⟩

theorem Wk.q {W w : World} {G : GH} {H : List Itm} {v0_0 : Value} {x0_0 : (List (List Int))} (m : Mem W G w (H)) (h0_0 : RSl (RSl (RI .i64)) G v0_0 x0_0) {y : Bool} (hd : D.q x0_0 = some y) :
  Calls Tryd.prog 17 #[(.agg #[v0_0])] w (Res W G H (fun _ Ho v => Ho = [] ∧ v = (.bool y))) := by
 refine calls_b (args := [(.agg #[v0_0])]) (N := 64) [.tmp 2] Tryd.func17 rfl rfl (Nat.le_of_ble_eq_true rfl) rfl fun a f => ?_
 unfold D.q at hd
 refine k_seq (k_region ?_)
 refine l_box (cs := [v0_0]) m f rfl rfl rfl fun aa w a m f => l_as f rfl rfl fun a f => l_nil (k_seq (k_region ?_))
 refine l_boxAgg 0 0 (ds := [v0_0]) m Ag32 f rfl rfl rfl rfl rfl fun a f => ?_
 obtain ⟨ab, ac, hd⟩ := bind_some hd
 refine l_res f rfl rfl Tryd.call27 (Wk.g m h0_0 ac) fun ad ae af w ag m ah a f => ?_
 obtain ⟨rfl, rfl⟩ := ah
 have h0_0 := rd2 ag h0_0
 refine l_as f rfl rfl fun a f => l_nil (k_seq (k_seq (k_region ?_)))
 refine l_mv f rfl rfl fun a f => ?_
 obtain ⟨ai, aj, hd⟩ := bind_some hd
 refine l_res f rfl rfl Tryd.call28 (Wk.c m  aj) fun ak al am w an m ao a f => ?_
 obtain ⟨rfl, rfl⟩ := ao
 have h0_0 := rd2 an h0_0
 refine l_op f rfl rfl rfl (r_not (f.eval rfl)) fun a f => l_nil ?_
 rcases cond_some hd with ⟨ap, hd⟩ | ⟨ap, hd⟩
 ·refine k_true f rfl ap ?_
  refine k_seq (k_region ?_)
  refine l_as f rfl rfl fun a f => l_nil ?_
  refine k_ret ?_
  have m : Mem W al w H := Mem.drop (H' := [Itm.box aa 32 [v0_0]]) m
  obtain rfl := sj hd
  exact ⟨[(.bool false)], ⟨f.get _ _ rfl, trivial⟩, f.defers, _, [], (GLe.trans ag an), m, rfl, rfl⟩
 ·refine k_false f rfl ap ?_
  refine k_skip ?_
  refine k_seq (k_seq (k_region ?_))
  refine l_as f rfl rfl fun a f => l_nil ?_
  obtain ⟨aq, ar, hd⟩ := bind_some hd
  refine k_cut (fun a w => ∃ q_138' : Unit, aq = .inl q_138' ∧ ∃ (au : GH), GLe al au ∧ Fr a 64 [(1, (.pointer (some ⟨aa, 0, none⟩))), (3, (.int .i64 ab))] ∧ Mem W au w (Itm.box aa 32 [v0_0] :: H)) ?_ ?_
  ·refine k_block ?_
   refine k_loop (fun av a w => ∃ aw : Int, aw = av ∧ ∃ (ax : GH), GLe al ax ∧ Fr a 64 [(1, (.pointer (some ⟨aa, 0, none⟩))), (3, (.int .i64 ab)), (4, (.int .i64 aw))] ∧ Mem W ax w (Itm.box aa 32 [v0_0] :: H)) ar ⟨_, rfl, _, (GLe.refl _), f.weak ⟨rfl, rfl, rfl, trivial⟩, m⟩ ?_
   clear ar f m
   rintro av ay az aA a w ⟨aw, rfl, ax, aB, f, m⟩
   have h0_0 := rd2 aB h0_0
   refine k_seq (k_seq (k_region ?_))
   refine l_mv f rfl rfl fun a f => l_mv f rfl rfl fun a f => l_in f rfl rfl rfl b_lss fun a f => l_nil ?_
   rcases cond_some az with ⟨aC, az⟩ | ⟨aC, az⟩
   ·refine k_true f rfl aC ?_
    refine k_skip ?_
    refine k_seq (k_block (k_seq (k_region ?_)))
    refine l_fieldAddr Tryd.underlying32 rfl Tryd.sizeOf30 (by decide) f rfl rfl fun a f => l_boxCell 0 0 m Pl30 f rfl rfl rfl rfl fun a f => l_mv f rfl rfl fun a f => ?_
    obtain ⟨aD, aE, az⟩ := bind_some az
    refine l_at T30 f rfl rfl rfl h0_0 aE fun aF aG a aH aI f => l_loadAt m Pl28 f rfl rfl aH fun a f => l_mv f rfl rfl fun a f => ?_
    obtain ⟨aJ, aK, az⟩ := bind_some az
    refine l_res f rfl rfl Tryd.call29 (Wk.i0 m aI aK) fun aL aM aN w aO m aP a f => ?_
    obtain ⟨rfl, rfl⟩ := aP
    have h0_0 := rd2 aO h0_0
    have aH := At.mono aO aH
    have aI := rd1 aO aI
    refine l_op f rfl rfl rfl (r_not (f.eval rfl)) fun a f => l_mv f rfl rfl fun a f => ?_
    obtain ⟨aQ, aR, az⟩ := bind_some az
    refine l_cut 8 (fun a w => ∃ aS, GLe aM aS ∧ Mem W aS w (Itm.box aa 32 [v0_0] :: H) ∧ Fr a 64 [(1, (.pointer (some ⟨aa, 0, none⟩))), (3, (.int .i64 ab)), (4, (.int .i64 aw)), (14, (.bool (decide (aw < ab)))), (17, (.pointer (some ⟨aa, 0, none⟩))), (18, v0_0), (19, (.int .i64 aw)), (20, aF), (21, aG), (22, (.int .i64 ab)), (23, (.bool aJ)), (24, (.bool (!aJ))), (25, (.bool (!aJ))), (33, (.bool aQ))]) ?_ ?_
    ·rcases cond_some aR with ⟨aT, aR⟩ | ⟨aT, aR⟩
     ·refine l_not' f rfl rfl rfl aT fun a f => ?_
      refine l_not' f rfl rfl rfl aT fun a f => l_not' f rfl rfl rfl aT fun a f => l_not' f rfl rfl rfl aT fun a f => l_not' f rfl rfl rfl aT fun a f => l_not' f rfl rfl rfl aT fun a f => l_not' f rfl rfl rfl aT fun a f => l_op f rfl rfl rfl (r_pickT (f.eval rfl) aT (f.eval rfl)) fun a f => ?_
      obtain rfl := sj aR
      exact ⟨_, (GLe.refl _), m, f.weak ⟨rfl, rfl, rfl, rfl, rfl, rfl, rfl, rfl, rfl, rfl, rfl, rfl, rfl, rfl, trivial⟩⟩
     ·refine l_run f rfl rfl aT ?_
      refine l_fieldAddr Tryd.underlying32 rfl Tryd.sizeOf30 (by decide) f rfl rfl fun a f => l_run f rfl rfl aT ?_
      refine l_boxCell 0 0 m Pl30 f rfl rfl rfl rfl fun a f => l_run f rfl rfl aT ?_
      refine l_mv f rfl rfl fun a f => l_run f rfl rfl aT ?_
      obtain ⟨aU, aV, aR⟩ := bind_some aR
      refine l_at T30 f rfl rfl rfl h0_0 aV fun aW aX a aY aZ f => l_run f rfl rfl aT ?_
      refine l_loadAt m Pl28 f rfl rfl aY fun a f => l_run f rfl rfl aT ?_
      refine l_mv f rfl rfl fun a f => l_run f rfl rfl aT ?_
      obtain ⟨a0, a1, aR⟩ := bind_some aR
      refine l_res f rfl rfl Tryd.call30 (Wk.i m aZ a1) fun a2 a3 a4 w a5 m a6 a f => ?_
      obtain ⟨rfl, rfl⟩ := a6
      have h0_0 := rd2 a5 h0_0
      have aH := At.mono a5 aH
      have aI := rd1 a5 aI
      have aY := At.mono a5 aY
      have aZ := rd1 a5 aZ
      refine l_op f rfl rfl rfl (r_pickF (f.eval rfl) aT (f.eval rfl)) fun a f => ?_
      obtain rfl := sj aR
      exact ⟨_, a5, m, f.weak ⟨rfl, rfl, rfl, rfl, rfl, rfl, rfl, rfl, rfl, rfl, rfl, rfl, rfl, rfl, trivial⟩⟩
    ·rintro a w ⟨aS, a7, m, f⟩
     have h0_0 := rd2 a7 h0_0
     have aH := At.mono a7 aH
     have aI := rd1 a7 aI
     refine l_nil ?_
     rcases cond_some az with ⟨a8, az⟩ | ⟨a8, az⟩
     ·refine k_true f rfl a8 ?_
      refine k_seq (k_region ?_)
      refine l_as f rfl rfl fun a f => l_nil ?_
      refine k_ret ?_
      have m : Mem W aS w H := Mem.drop (H' := [Itm.box aa 32 [v0_0]]) m
      obtain rfl := sj az
      obtain rfl := aA _ rfl
      obtain rfl := sj hd
      exact ⟨[(.bool false)], ⟨f.get _ _ rfl, trivial⟩, f.defers, _, [], (GLe.trans ag (GLe.trans an (GLe.trans aB (GLe.trans aO a7)))), m, rfl, rfl⟩
     ·refine k_false f rfl a8 ?_
      refine k_skip ?_
      refine k_region ?_
      refine l_mv f rfl rfl fun a f => l_in f rfl rfl rfl b_add fun a f => l_as f rfl rfl fun a f => l_nil ?_
      obtain rfl := sj az
      exact ⟨_, rfl, _, rfl, _, (GLe.trans aB (GLe.trans aO a7)), f.weak ⟨rfl, rfl, rfl, trivial⟩, m⟩
   ·refine k_false f rfl aC ?_
    refine k_exit rfl ?_
    obtain rfl := sj az
    obtain rfl := aA _ rfl
    exact ⟨_, rfl, _, aB, f.weak ⟨rfl, rfl, trivial⟩, m⟩
  ·rintro a w ⟨_, rfl, au, a9, f, m⟩
   have h0_0 := rd2 a9 h0_0
   refine k_seq (k_seq (k_region ?_))
   refine l_as f rfl rfl fun a f => l_nil ?_
   obtain ⟨ba, bb, hd⟩ := bind_some hd
   refine k_cut (fun a w => ∃ q_545' : Unit, ba = .inl q_545' ∧ ∃ (bc : GH), GLe au bc ∧ Fr a 64 [] ∧ Mem W bc w (H)) ?_ ?_
   ·refine k_block ?_
    refine k_loop (fun bd a w => ∃ be : Int, be = bd ∧ ∃ (bf : GH), GLe au bf ∧ Fr a 64 [(1, (.pointer (some ⟨aa, 0, none⟩))), (3, (.int .i64 ab)), (5, (.int .i64 be))] ∧ Mem W bf w (Itm.box aa 32 [v0_0] :: H)) bb ⟨_, rfl, _, (GLe.refl _), f.weak ⟨rfl, rfl, rfl, trivial⟩, m⟩ ?_
    clear bb f m
    rintro bd bg bh bi a w ⟨be, rfl, bf, bj, f, m⟩
    have h0_0 := rd2 bj h0_0
    refine k_seq (k_seq (k_region ?_))
    refine l_mv f rfl rfl fun a f => l_mv f rfl rfl fun a f => l_in f rfl rfl rfl b_lss fun a f => l_nil ?_
    rcases cond_some bh with ⟨bk, bh⟩ | ⟨bk, bh⟩
    ·refine k_true f rfl bk ?_
     refine k_skip ?_
     refine k_seq (k_block (k_seq (k_region ?_)))
     refine l_as f rfl rfl fun a f => l_nil ?_
     obtain ⟨bl, bm, bh⟩ := bind_some bh
     refine k_cut (fun a w => ∃ q_759' : Unit, bl = .inl q_759' ∧ ∃ (bn : GH), GLe bf bn ∧ Fr a 64 [(1, (.pointer (some ⟨aa, 0, none⟩))), (3, (.int .i64 ab)), (5, (.int .i64 be))] ∧ Mem W bn w (Itm.box aa 32 [v0_0] :: H)) ?_ ?_
     ·refine k_block ?_
      refine k_loop (fun bo a w => ∃ bp : Int, bp = bo ∧ ∃ (bq : GH), GLe bf bq ∧ Fr a 64 [(1, (.pointer (some ⟨aa, 0, none⟩))), (3, (.int .i64 ab)), (5, (.int .i64 be)), (6, (.int .i64 bp))] ∧ Mem W bq w (Itm.box aa 32 [v0_0] :: H)) bm ⟨_, rfl, _, (GLe.refl _), f.weak ⟨rfl, rfl, rfl, rfl, trivial⟩, m⟩ ?_
      clear bm f m
      rintro bo br bs bt a w ⟨bp, rfl, bq, bu, f, m⟩
      have h0_0 := rd2 bu h0_0
      refine k_seq (k_seq (k_region ?_))
      refine l_mv f rfl rfl fun a f => l_fieldAddr Tryd.underlying32 rfl Tryd.sizeOf30 (by decide) f rfl rfl fun a f => l_boxCell 0 0 m Pl30 f rfl rfl rfl rfl fun a f => l_mv f rfl rfl fun a f => ?_
      obtain ⟨bv, bw, bs⟩ := bind_some bs
      refine l_at T30 f rfl rfl rfl h0_0 bw fun bx bz a bA bB f => l_loadAt m Pl28 f rfl rfl bA fun a f => l_len Tryd.underlying28 f rfl rfl bB fun a f => l_in f rfl rfl rfl b_lss fun a f => l_nil ?_
      rcases cond_some bs with ⟨bC, bs⟩ | ⟨bC, bs⟩
      ·refine k_true f rfl bC ?_
       refine k_skip ?_
       refine k_seq (k_block (k_seq ?_))
       refine k_draw 15 Follows (by kernel_rfl) m ?_
       refine q_fieldAddr (i := 0) 15 Tryd.underlying32 rfl Tryd.sizeOf30 (by decide) rfl (by kernel_rfl) rfl f rfl rfl rfl fun a f => q_boxCell (i := 1) 15 0 Pl30 rfl rfl rfl (by kernel_rfl) rfl f rfl rfl rfl fun a f => q_fieldAddr (i := 2) 15 Tryd.underlying32 rfl Tryd.sizeOf30 (by decide) rfl (by kernel_rfl) rfl f rfl rfl rfl fun a f => q_boxCell (i := 3) 15 0 Pl30 rfl rfl rfl (by kernel_rfl) rfl f rfl rfl rfl fun a f => q_mv 4 15 rfl (by kernel_rfl) f rfl rfl rfl fun a f => ?_
       obtain ⟨bD, bE, bs⟩ := bind_some bs
       refine q_at (i := 5) 15 T30 h0_0 bE rfl (by kernel_rfl) rfl f rfl rfl rfl rfl fun bF bG a bH bI f => q_loadAt (i := 6) 15 Pl28 bH rfl (by kernel_rfl) rfl f rfl rfl rfl fun a f => q_mv 7 15 rfl (by kernel_rfl) f rfl rfl rfl fun a f => ?_
       obtain ⟨bJ, bK, bs⟩ := bind_some bs
       refine q_at (i := 8) 15 T28 bI bK rfl (by kernel_rfl) rfl f rfl rfl rfl rfl fun bL bM a bN bO f => ?_
       subst bO
       refine q_loadAt (i := 9) 15 Pl2 bN rfl (by kernel_rfl) rfl f rfl rfl rfl fun a f => ?_
       obtain ⟨bP, bQ, bs⟩ := bind_some bs
       refine q_at (i := 10) 15 T30 h0_0 bQ rfl (by kernel_rfl) rfl f rfl rfl rfl rfl fun bR bS a bT bU f => q_loadAt (i := 11) 15 Pl28 bT rfl (by kernel_rfl) rfl f rfl rfl rfl fun a f => q_mv 12 15 rfl (by kernel_rfl) f rfl rfl rfl fun a f => ?_
       obtain ⟨bV, bW, bs⟩ := bind_some bs
       refine q_call (i := 13) 15 rfl (by kernel_rfl) rfl f rfl rfl rfl Tryd.call30 (fun _ _ w bX m => Wk.i m (rd1 bX bU) bW) fun a f => q_p 14 15 rfl (by kernel_rfl) f rfl rfl rfl (fun _ => r_not (f.eval rfl)) fun a f => q_end fun bY w bZ m => ?_
       have h0_0 := rd2 bZ h0_0
       have bH := At.mono bZ bH
       have bI := rd1 bZ bI
       have bN := At.mono bZ bN
       have bT := At.mono bZ bT
       have bU := rd1 bZ bU
       refine l_nil ?_
       rcases cond_some bs with ⟨b0, bs⟩ | ⟨b0, bs⟩
       ·refine k_true f rfl b0 ?_
        refine k_seq (k_region ?_)
        refine l_as f rfl rfl fun a f => l_nil ?_
        refine k_ret ?_
        have m : Mem W bY w H := Mem.drop (H' := [Itm.box aa 32 [v0_0]]) m
        obtain rfl := sj bs
        obtain rfl := bt _ rfl
        obtain rfl := sj bh
        obtain rfl := bi _ rfl
        obtain rfl := sj hd
        exact ⟨[(.bool false)], ⟨f.get _ _ rfl, trivial⟩, f.defers, _, [], (GLe.trans ag (GLe.trans an (GLe.trans a9 (GLe.trans bj (GLe.trans bu bZ))))), m, rfl, rfl⟩
       ·refine k_false f rfl b0 ?_
        refine k_skip ?_
        refine k_region ?_
        refine l_mv f rfl rfl fun a f => l_in f rfl rfl rfl b_add fun a f => l_as f rfl rfl fun a f => l_nil ?_
        obtain rfl := sj bs
        exact ⟨_, rfl, _, rfl, _, (GLe.trans bu bZ), f.weak ⟨rfl, rfl, rfl, rfl, trivial⟩, m⟩
      ·refine k_false f rfl bC ?_
       refine k_exit rfl ?_
       obtain rfl := sj bs
       obtain rfl := bt _ rfl
       exact ⟨_, rfl, _, bu, f.weak ⟨rfl, rfl, rfl, trivial⟩, m⟩
     ·rintro a w ⟨_, rfl, bn, b1, f, m⟩
      have h0_0 := rd2 b1 h0_0
      refine k_region ?_
      refine l_mv f rfl rfl fun a f => l_in f rfl rfl rfl b_add fun a f => l_as f rfl rfl fun a f => l_nil ?_
      obtain rfl := sj bh
      exact ⟨_, rfl, _, rfl, _, (GLe.trans bj b1), f.weak ⟨rfl, rfl, rfl, trivial⟩, m⟩
    ·refine k_false f rfl bk ?_
     refine k_exit rfl ?_
     have m : Mem W bf w H := Mem.drop (H' := [Itm.box aa 32 [v0_0]]) m
     obtain rfl := sj bh
     obtain rfl := bi _ rfl
     exact ⟨_, rfl, _, bj, f.weak trivial, m⟩
   ·rintro a w ⟨_, rfl, bc, b2, f, m⟩
    refine k_seq (k_region ?_)
    refine l_as f rfl rfl fun a f => l_nil ?_
    refine k_ret ?_
    obtain rfl := sj hd
    exact ⟨[(.bool true)], ⟨f.get _ _ rfl, trivial⟩, f.defers, _, [], (GLe.trans ag (GLe.trans an (GLe.trans a9 b2))), m, rfl, rfl⟩

theorem Wk.g0 {W w : World} {G : GH} {H : List Itm} {x0 : Int} (m : Mem W G w (H))  {y : ((List (List Int)))} (hd : D.g0 x0 = some y) :
  Calls Tryd.prog 31 #[(.int .i64 x0)] w (Res W G H (fun G' Ho v => ∃ r0 : Value, ∃ i0 : Itm, Ho = [i0] ∧ v = (.agg #[r0]) ∧ Ow (RSl (RI .i64)) 28 G' i0 r0 y)) := by
 refine calls_b (args := [(.int .i64 x0)]) (N := 18) [.cell 2 32] Tryd.func31 rfl rfl (Nat.le_of_ble_eq_true rfl) rfl fun a f => ?_
 unfold D.g0 at hd
 refine k_seq (k_region ?_)
 refine l_alloc (cs := [(.slice none 0 0)]) Tryd.zeroValue32 m f rfl rfl fun aa w a m f => l_nil (k_seq (k_region ?_))
 have ab : ∀ w, (Instr.build 32 #[]).run Tryd.prog w = .ok (.agg #[(.slice none 0 0)]) w := by intro w; simp [Instr.build, Instr.fill, cells_int, cells_bool, cells_string, cells_slice, cells_pointer, cells_agg]
 refine l_build f rfl rfl ab fun a f => l_alloc (cs := [(.slice none 0 0)]) Tryd.zeroValue32 m f rfl rfl fun ac w a m f => l_boxStore 0 0 (ds := [(.slice none 0 0)]) m Tryd.sizeOf32 f rfl rfl rfl (ones_cons rfl ones_nil) rfl (Nat.le_of_ble_eq_true rfl) rfl fun w m => l_nil (k_seq (k_seq (k_region ?_)))
 refine l_as f rfl rfl fun a f => l_nil ?_
 obtain ⟨ad, m, ae⟩ := Ow.nil (RSl (RI .i64)) 28 m
 obtain ⟨af, ag, hd⟩ := bind_some hd
 refine k_cut (fun a w => ∃ ah : List (List Int), ah = af ∧ ∃ (ai : GH) (aj : Value) (ak : Itm), GLe G ai ∧ Fr a 18 [(2, (.pointer (some ⟨aa, 0, none⟩))), (3, (.pointer (some ⟨ac, 0, none⟩)))] ∧ Mem W ai w (Itm.box aa 32 [(.slice none 0 0)] :: Itm.box ac 32 [aj] :: ak :: H) ∧ Ow (RSl (RI .i64)) 28 ai ak aj ah) ?_ ?_
 ·refine k_block ?_
  have m := m.front 1 rfl
  have m := m.front 2 rfl
  refine k_loop (fun al a w => ∃ am : Int, ∃ an : List (List Int), (am, an) = al ∧ ∃ (ao : GH) (ap : Value) (aq : Itm), GLe G ao ∧ Fr a 18 [(0, (.int .i64 x0)), (2, (.pointer (some ⟨aa, 0, none⟩))), (3, (.pointer (some ⟨ac, 0, none⟩))), (4, (.int .i64 am))] ∧ Mem W ao w (Itm.box aa 32 [(.slice none 0 0)] :: Itm.box ac 32 [ap] :: aq :: H) ∧ Ow (RSl (RI .i64)) 28 ao aq ap an) ag ⟨_, _, rfl, _, (.slice none 0 0), ad, (GLe.refl _), f.weak ⟨rfl, rfl, rfl, rfl, trivial⟩, m, ae⟩ ?_
  clear ag f m
  rintro al ar au av a w ⟨am, an, rfl, ao, ap, aq, aw, f, m, ax⟩
  refine k_seq (k_seq (k_region ?_))
  refine l_mv f rfl rfl fun a f => l_mv f rfl rfl fun a f => l_in f rfl rfl rfl b_lss fun a f => l_nil ?_
  rcases cond_some au with ⟨ay, au⟩ | ⟨ay, au⟩
  ·refine k_true f rfl ay ?_
   refine k_skip ?_
   refine k_seq (k_block (k_region ?_))
   refine l_fieldAddr Tryd.underlying32 rfl Tryd.sizeOf30 (by decide) f rfl rfl fun a f => l_boxCell 1 0 m Pl30 f rfl rfl rfl rfl fun a f => l_slit (R := (RI .i64)) (xs := ([] : List Int)) (RI.one _) m T28 f rfl rfl rfl (by decide) (All2.nil _) fun az aA w a m aB f => ?_
   obtain ⟨aC, aD, m, aE⟩ := Ow.stamp (RI.mono _) aB m
   have ax := Ow.mono (RSl.mono (RI.mono _)) aD ax
   refine l_slit (R := (RSl (RI .i64))) (xs := ([([] : List Int)] : List (List Int))) (RSl.one _) m T30 f rfl rfl rfl (by decide) (All2.cons aE (All2.nil _)) fun aF aG w a m aH f => ?_
   obtain ⟨aI, aJ, au⟩ := bind_some au
   refine l_append (RSl.one _) 3 m ax rfl T30 rfl (by decide) f rfl rfl rfl (Ow.src (j := 0) aH m rfl) aJ fun aK aL w a m aM f => l_fieldAddr Tryd.underlying32 rfl Tryd.sizeOf30 (by decide) f rfl rfl fun a f => l_boxStore 2 0 (ds := [aL]) m Tryd.sizeOf30 f rfl rfl (Ow.cells 3 m aM rfl) (ones_cons (Ow.one1 3 m aM rfl) ones_nil) rfl (Nat.le_of_ble_eq_true rfl) rfl fun w m => l_nil (k_region ?_)
   refine l_mv f rfl rfl fun a f => l_in f rfl rfl rfl b_add fun a f => l_as f rfl rfl fun a f => l_nil ?_
   have m := m.front 3 rfl
   have m := m.front 3 rfl
   have m : Mem W aC w (Itm.box aa 32 [(.slice none 0 0)] :: Itm.box ac 32 [aL] :: aK :: aF :: H) := m.front 3 rfl
   have m := m.eraseAt 3
   obtain rfl := sj au
   exact ⟨_, rfl, _, _, rfl, _, aL, aK, (GLe.trans aw aD), f.weak ⟨rfl, rfl, rfl, rfl, trivial⟩, m, aM⟩
  ·refine k_false f rfl ay ?_
   refine k_exit rfl ?_
   obtain rfl := sj au
   obtain rfl := av _ rfl
   exact ⟨_, rfl, _, ap, aq, aw, f.weak ⟨rfl, rfl, trivial⟩, m, ax⟩
 ·rintro a w ⟨ah, rfl, ai, aj, ak, aN, f, m, aO⟩
  refine k_seq (k_region ?_)
  refine l_boxAgg 1 0 (ds := [aj]) m Ag32 f rfl rfl rfl rfl rfl fun a f => l_boxStore 0 0 (ds := [aj]) m Tryd.sizeOf32 f rfl rfl rfl (ones_cons (Ow.one1 2 m aO rfl) ones_nil) rfl (Nat.le_of_ble_eq_true rfl) rfl fun w m => l_nil ?_
  refine k_ret ?_
  have aP := rr_agg (P := Tryd.prog) 0 m Ag32 f (s := 2) rfl rfl rfl
  have m := m.front 2 rfl
  have m := m.eraseAt 2
  have m := m.eraseAt 1
  obtain rfl := sj hd
  exact ⟨[(.agg #[aj])], ⟨aP, trivial⟩, f.defers, _, [ak], aN, m, _, _, rfl, rfl, aO⟩

theorem Wk.G {W w : World} {G : GH} {H : List Itm} {v0_0 : Value} {x0_0 : (List (List Int))} {x1 : Int} {x2 : Int} (m : Mem W G w (H)) (h0_0 : RSl (RSl (RI .i64)) G v0_0 x0_0) {y : Bool} (hd : D.G x0_0 x1 x2 = some y) :
  Calls Tryd.prog 24 #[(.agg #[v0_0]), (.int .i64 x1), (.int .i64 x2)] w (Res W G H (fun _ Ho v => Ho = [] ∧ v = (.bool y))) := by
 refine calls_b (args := [(.agg #[v0_0]), (.int .i64 x1), (.int .i64 x2)]) (N := 14) [.tmp 6] Tryd.func24 rfl rfl (Nat.le_of_ble_eq_true rfl) rfl fun a f => ?_
 unfold D.G at hd
 refine k_seq (k_region ?_)
 refine l_box (cs := [v0_0]) m f rfl rfl rfl fun aa w a m f => l_as f rfl rfl fun a f => l_nil (k_seq (k_region ?_))
 refine l_fieldAddr Tryd.underlying32 rfl Tryd.sizeOf30 (by decide) f rfl rfl fun a f => l_boxCell 0 0 m Pl30 f rfl rfl rfl rfl fun a f => l_mv f rfl rfl fun a f => ?_
 obtain ⟨ab, ac, hd⟩ := bind_some hd
 refine l_at T30 f rfl rfl rfl h0_0 ac fun ad ae a af ag f => l_loadAt m Pl28 f rfl rfl af fun a f => l_mv f rfl rfl fun a f => ?_
 obtain ⟨ah, ai, hd⟩ := bind_some hd
 refine l_res f rfl rfl Tryd.call30 (Wk.i m ag ai) fun aj ak al w am m an a f => ?_
 obtain ⟨rfl, rfl⟩ := an
 have h0_0 := rd2 am h0_0
 have af := At.mono am af
 have ag := rd1 am ag
 refine l_as f rfl rfl fun a f => l_nil ?_
 refine k_ret ?_
 have m : Mem W ak w H := Mem.drop (H' := [Itm.box aa 32 [v0_0]]) m
 obtain rfl := sj hd
 exact ⟨[(.bool ah)], ⟨f.get _ _ rfl, trivial⟩, f.defers, _, [], am, m, rfl, rfl⟩

theorem Wk.h {W w : World} {G : GH} {H : List Itm} {v0 : Value} {x0 : (List Int)} (m : Mem W G w (H)) (h0 : RSl (RI .i64) G v0 x0) {y : ((List Int))} (hd : D.h x0 = some y) :
  Calls Tryd.prog 50 #[v0] w (Res W G H (fun G' Ho v => ∃ r0 : Value, ∃ i0 : Itm, Ho = [i0] ∧ r0 = v ∧ Ow (RI .i64) 2 G' i0 r0 y)) := by
 refine calls_b (args := [v0]) (N := 6) [.tmp 2] Tryd.func50 rfl rfl (Nat.le_of_ble_eq_true rfl) rfl fun a f => ?_
 unfold D.h at hd
 refine k_seq (k_region ?_)
 refine l_as f rfl rfl fun a f => l_nil (k_seq (k_region ?_))
 refine l_slit (R := (RI .i64)) (xs := ([] : List Int)) (RI.one _) m T28 f rfl rfl rfl (by decide) (All2.nil _) fun aa ab w a m ac f => l_mv f rfl rfl fun a f => ?_
 obtain ⟨ad, ae, hd⟩ := bind_some hd
 refine l_append (RI.one _) 0 m ac rfl T28 rfl (by decide) f rfl rfl rfl (h0.src m) ae fun af ag w a m ah f => l_as f rfl rfl fun a f => l_nil ?_
 refine k_ret ?_
 obtain rfl := sj hd
 exact ⟨[ag], ⟨f.get _ _ rfl, trivial⟩, f.defers, _, [af], (GLe.refl _), m, _, _, rfl, rfl, ah⟩

theorem Wk.C {W w : World} {G : GH} {H : List Itm} {v0 : Value} {x0 : (List Int)} {x1 : Int} (m : Mem W G w (H)) (h0 : RSl (RI .i64) G v0 x0) {y : ((List Int))} (hd : D.C x0 x1 = some y) :
  Calls Tryd.prog 44 #[v0, (.int .i64 x1)] w (Res W G H (fun G' Ho v => ∃ r0 : Value, Ho = [] ∧ r0 = v ∧ RSl (RI .i64) G' r0 y)) := by
 refine calls_b (args := [v0, (.int .i64 x1)]) (N := 46) [.tmp 4] Tryd.func44 rfl rfl (Nat.le_of_ble_eq_true rfl) rfl fun a f => ?_
 unfold D.C at hd
 refine k_seq (k_region ?_)
 refine l_as f rfl rfl fun a f => l_nil (k_seq (k_region ?_))
 refine l_as f rfl rfl fun a f => l_nil (k_seq ?_)
 obtain ⟨aa, ab, hd⟩ := bind_some hd
 refine k_cut (fun a w => ∃ ac : Int, ac = aa ∧ ∃ (ad : GH), GLe G ad ∧ Fr a 46 [(0, v0), (1, (.int .i64 x1)), (5, (.int .i64 ac))] ∧ Mem W ad w (H)) ?_ ?_
 ·refine k_block ?_
  refine k_loop (fun ae a w => ∃ af : Int, af = ae ∧ ∃ (ag : GH), GLe G ag ∧ Fr a 46 [(0, v0), (1, (.int .i64 x1)), (5, (.int .i64 af))] ∧ Mem W ag w (H)) ab ⟨_, rfl, _, (GLe.refl _), f.weak ⟨rfl, rfl, rfl, trivial⟩, m⟩ ?_
  clear ab f m
  rintro ae ah ai aj a w ⟨af, rfl, ag, ak, f, m⟩
  have h0 := rd1 ak h0
  refine k_seq (k_seq (k_region ?_))
  refine l_mv f rfl rfl fun a f => l_mv f rfl rfl fun a f => l_len Tryd.underlying28 f rfl rfl h0 fun a f => l_in f rfl rfl rfl b_lss fun a f => l_mv f rfl rfl fun a f => ?_
  obtain ⟨al, am, ai⟩ := bind_some ai
  refine l_cut 7 (fun a w => ∃ an, GLe ag an ∧ Mem W an w (H) ∧ Fr a 46 [(0, v0), (1, (.int .i64 x1)), (5, (.int .i64 af)), (7, (.int .i64 af)), (8, v0), (9, (.int .i64 (x0.length : Int))), (10, (.bool (decide (af < (x0.length : Int))))), (11, (.bool (decide (af < (x0.length : Int))))), (18, (.bool al))]) ?_ ?_
  ·rcases cond_some am with ⟨ao, am⟩ | ⟨ao, am⟩
   ·refine l_run f rfl rfl ao ?_
    refine l_mv f rfl rfl fun a f => l_run f rfl rfl ao ?_
    refine l_mv f rfl rfl fun a f => l_run f rfl rfl ao ?_
    obtain ⟨ap, aq, am⟩ := bind_some am
    refine l_at T28 f rfl rfl rfl h0 aq fun ar au a av aw f => ?_
    subst aw
    refine l_run f rfl rfl ao ?_
    refine l_loadAt m Pl2 f rfl rfl av fun a f => l_run f rfl rfl ao ?_
    refine l_mv f rfl rfl fun a f => l_run f rfl rfl ao ?_
    refine l_in f rfl rfl rfl b_lss fun a f => l_op f rfl rfl rfl (r_pickT (f.eval rfl) ao (f.eval rfl)) fun a f => ?_
    obtain rfl := sj am
    exact ⟨_, (GLe.refl _), m, f.weak ⟨rfl, rfl, rfl, rfl, rfl, rfl, rfl, rfl, rfl, trivial⟩⟩
   ·refine l_not' f rfl rfl rfl ao fun a f => ?_
    refine l_not' f rfl rfl rfl ao fun a f => l_not' f rfl rfl rfl ao fun a f => l_not' f rfl rfl rfl ao fun a f => l_not' f rfl rfl rfl ao fun a f => l_not' f rfl rfl rfl ao fun a f => l_op f rfl rfl rfl (r_pickF (f.eval rfl) ao (f.eval rfl)) fun a f => ?_
    obtain rfl := sj am
    exact ⟨_, (GLe.refl _), m, f.weak ⟨rfl, rfl, rfl, rfl, rfl, rfl, rfl, rfl, rfl, trivial⟩⟩
  ·rintro a w ⟨an, ax, m, f⟩
   have h0 := rd1 ax h0
   refine l_nil ?_
   rcases cond_some ai with ⟨ay, ai⟩ | ⟨ay, ai⟩
   ·refine k_true f rfl ay ?_
    refine k_skip ?_
    refine k_block (k_region ?_)
    refine l_mv f rfl rfl fun a f => l_in f rfl rfl rfl b_add fun a f => l_as f rfl rfl fun a f => l_nil ?_
    obtain rfl := sj ai
    exact ⟨_, rfl, _, rfl, _, (GLe.trans ak ax), f.weak ⟨rfl, rfl, rfl, trivial⟩, m⟩
   ·refine k_false f rfl ay ?_
    refine k_exit rfl ?_
    obtain rfl := sj ai
    obtain rfl := aj _ rfl
    exact ⟨_, rfl, _, (GLe.trans ak ax), f.weak ⟨rfl, rfl, rfl, trivial⟩, m⟩
 ·rintro a w ⟨ac, rfl, ad, az, f, m⟩
  have h0 := rd1 az h0
  refine k_seq (k_seq (k_region ?_))
  refine l_mv f rfl rfl fun a f => l_mv f rfl rfl fun a f => l_len Tryd.underlying28 f rfl rfl h0 fun a f => l_in f rfl rfl rfl b_lss fun a f => l_mv f rfl rfl fun a f => ?_
  obtain ⟨aA, aB, hd⟩ := bind_some hd
  refine l_cut 7 (fun a w => ∃ aC, GLe ad aC ∧ Mem W aC w (H) ∧ Fr a 46 [(0, v0), (1, (.int .i64 x1)), (5, (.int .i64 ac)), (21, (.int .i64 ac)), (22, v0), (23, (.int .i64 (x0.length : Int))), (24, (.bool (decide (ac < (x0.length : Int))))), (25, (.bool (decide (ac < (x0.length : Int))))), (32, (.bool aA))]) ?_ ?_
  ·rcases cond_some aB with ⟨aD, aB⟩ | ⟨aD, aB⟩
   ·refine l_run f rfl rfl aD ?_
    refine l_mv f rfl rfl fun a f => l_run f rfl rfl aD ?_
    refine l_mv f rfl rfl fun a f => l_run f rfl rfl aD ?_
    obtain ⟨aE, aF, aB⟩ := bind_some aB
    refine l_at T28 f rfl rfl rfl h0 aF fun aG aH a aI aJ f => ?_
    subst aJ
    refine l_run f rfl rfl aD ?_
    refine l_loadAt m Pl2 f rfl rfl aI fun a f => l_run f rfl rfl aD ?_
    refine l_mv f rfl rfl fun a f => l_run f rfl rfl aD ?_
    refine l_in f rfl rfl rfl b_eql fun a f => l_op f rfl rfl rfl (r_pickT (f.eval rfl) aD (f.eval rfl)) fun a f => ?_
    obtain rfl := sj aB
    exact ⟨_, (GLe.refl _), m, f.weak ⟨rfl, rfl, rfl, rfl, rfl, rfl, rfl, rfl, rfl, trivial⟩⟩
   ·refine l_not' f rfl rfl rfl aD fun a f => ?_
    refine l_not' f rfl rfl rfl aD fun a f => l_not' f rfl rfl rfl aD fun a f => l_not' f rfl rfl rfl aD fun a f => l_not' f rfl rfl rfl aD fun a f => l_not' f rfl rfl rfl aD fun a f => l_op f rfl rfl rfl (r_pickF (f.eval rfl) aD (f.eval rfl)) fun a f => ?_
    obtain rfl := sj aB
    exact ⟨_, (GLe.refl _), m, f.weak ⟨rfl, rfl, rfl, rfl, rfl, rfl, rfl, rfl, rfl, trivial⟩⟩
  ·rintro a w ⟨aC, aK, m, f⟩
   have h0 := rd1 aK h0
   refine l_nil ?_
   rcases cond_some hd with ⟨aL, hd⟩ | ⟨aL, hd⟩
   ·refine k_true f rfl aL ?_
    refine k_seq (k_region ?_)
    refine l_mv f rfl rfl fun a f => l_as f rfl rfl fun a f => l_nil ?_
    refine k_ret ?_
    obtain rfl := sj hd
    exact ⟨[v0], ⟨f.get _ _ rfl, trivial⟩, f.defers, _, [], (GLe.trans az aK), m, _, rfl, rfl, h0⟩
   ·refine k_false f rfl aL ?_
    refine k_skip ?_
    refine k_seq (k_region ?_)
    refine l_mv f rfl rfl fun a f => l_mv f rfl rfl fun a f => ?_
    obtain ⟨aM, aN, hd⟩ := bind_some hd
    refine l_slice T28 f rfl rfl h0 (.inl ⟨rfl, rfl⟩) (.inr ⟨_, _, rfl, rfl⟩) aN fun aO a aP f => ?_
    obtain ⟨aQ, aR, hd⟩ := bind_some hd
    refine l_res f rfl rfl Tryd.call50 (Wk.h m aP aR) fun aS aT aU w aV m aW a f => ?_
    obtain ⟨aX, aY, rfl, rfl, aZ⟩ := aW
    have h0 := rd1 aV h0
    have aP := rd1 aV aP
    refine l_mv f rfl rfl fun a f => l_slit (R := (RI .i64)) (xs := ([x1] : List Int)) (RI.one _) m T28 f rfl rfl rfl (by decide) (All2.cons rfl (All2.nil _)) fun a0 a1 w a m a2 f => ?_
    obtain ⟨a3, a4, hd⟩ := bind_some hd
    refine l_append (RI.one _) 1 m aZ rfl T28 rfl (by decide) f rfl rfl rfl (Ow.src (j := 0) a2 m rfl) a4 fun a5 a6 w a m a7 f => l_as f rfl rfl fun a f => l_nil (k_seq (k_region ?_))
    refine l_mv f rfl rfl fun a f => l_mv f rfl rfl fun a f => l_mv f rfl rfl fun a f => ?_
    obtain ⟨a8, a9, hd⟩ := bind_some hd
    refine l_slice T28 f rfl rfl h0 (.inr ⟨_, _, rfl, rfl⟩) (.inl ⟨rfl, rfl⟩) a9 fun ba a bb f => ?_
    obtain ⟨bc, bd, hd⟩ := bind_some hd
    refine l_append (RI.one _) 1 m a7 rfl T28 rfl (by decide) f rfl rfl rfl (bb.src m) bd fun be bf w a m bg f => l_as f rfl rfl fun a f => l_nil ?_
    refine k_ret ?_
    have m := m.front 1 rfl
    obtain ⟨bh, bi, m, bj⟩ := Ow.stamp (RI.mono _) bg m
    have h0 := rd1 bi h0
    have a2 := od1 bi a2
    have m : Mem W bh w H := Mem.drop (H' := [a0]) m
    obtain rfl := sj hd
    exact ⟨[bf], ⟨f.get _ _ rfl, trivial⟩, f.defers, _, [], (GLe.trans az (GLe.trans aK (GLe.trans aV bi))), m, _, rfl, rfl, bj⟩

theorem Wk.l0 {W w : World} {G : GH} {H : List Itm} {v0_0 : Value} {it0_0 : Itm} {x0_0 : (List (List Int))} {x1 : Int} {x2 : Int} (m : Mem W G w (it0_0 :: H)) (o0_0 : Ow (RSl (RI .i64)) 28 G it0_0 v0_0 x0_0) {y : ((List (List Int)))} (hd : D.l0 x0_0 x1 x2 = some y) :
  Calls Tryd.prog 32 #[(.agg #[v0_0]), (.int .i64 x1), (.int .i64 x2)] w (Res W G H (fun G' Ho v => ∃ i0 : Itm, Ho = [i0] ∧ v = (.agg #[v0_0]) ∧ Ow (RSl (RI .i64)) 28 G' i0 v0_0 y)) := by
 refine calls_b (args := [(.agg #[v0_0]), (.int .i64 x1), (.int .i64 x2)]) (N := 30) [.cell 6 32] Tryd.func32 rfl rfl (Nat.le_of_ble_eq_true rfl) rfl fun a f => ?_
 unfold D.l0 at hd
 refine k_seq (k_region ?_)
 refine l_box (cs := [v0_0]) m f rfl rfl rfl fun aa w a m f => l_alloc (cs := [(.slice none 0 0)]) Tryd.zeroValue32 m f rfl rfl fun ab w a m f => l_nil (k_seq ?_)
 refine k_draw 11 Follows (by kernel_rfl) m ?_
 refine q_fieldAddr (i := 0) 11 Tryd.underlying32 rfl Tryd.sizeOf30 (by decide) rfl (by kernel_rfl) rfl f rfl rfl rfl fun a f => q_boxCell (i := 1) 11 1 Pl30 rfl rfl rfl (by kernel_rfl) rfl f rfl rfl rfl fun a f => q_mv 2 11 rfl (by kernel_rfl) f rfl rfl rfl fun a f => q_fieldAddr (i := 3) 11 Tryd.underlying32 rfl Tryd.sizeOf30 (by decide) rfl (by kernel_rfl) rfl f rfl rfl rfl fun a f => q_boxCell (i := 4) 11 1 Pl30 rfl rfl rfl (by kernel_rfl) rfl f rfl rfl rfl fun a f => q_mv 5 11 rfl (by kernel_rfl) f rfl rfl rfl fun a f => ?_
 obtain ⟨ac, ad, hd⟩ := bind_some hd
 refine q_own_at (i := 6) 11 2 m o0_0 rfl T30 ad rfl (by kernel_rfl) rfl f rfl rfl rfl rfl fun ae a af f => q_own_load (i := 7) 11 2 o0_0 rfl Pl28 af ad rfl (by kernel_rfl) rfl f rfl rfl rfl fun ag a ah f => q_mv 8 11 rfl (by kernel_rfl) f rfl rfl rfl fun a f => q_one (i := 9) rfl (by kernel_rfl) rfl fun ai w aj m ak ak => ?_
 have ah := rd1 aj ah
 have o0_0 := Ow.mono (RSl.mono (RI.mono _)) aj o0_0
 obtain ⟨al, am, hd⟩ := bind_some hd
 refine l_res f rfl rfl Tryd.call44 (Wk.C m ah am) fun an ao ap w aq m ar a f => ?_
 obtain ⟨au, rfl, rfl, av⟩ := ar
 have ah := rd1 aq ah
 have o0_0 := Ow.mono (RSl.mono (RI.mono _)) aq o0_0
 refine l_nil ?_
 refine ak ao [] _ _ aq m ?_
 obtain ⟨aw, ax, hd⟩ := bind_some hd
 refine q_own_at (i := 10) 11 2 m o0_0 rfl T30 ax rfl (by kernel_rfl) rfl f rfl rfl rfl rfl fun ay a az f => q_end fun aA w aB m => ?_
 have ah := rd1 aB ah
 have av := rd1 aB av
 have o0_0 := Ow.mono (RSl.mono (RI.mono _)) aB o0_0
 refine l_own_store 2 m o0_0 rfl Tryd.sizeOf28 f rfl rfl az ax av.cells av.one1 av fun aC w m aD => l_nil (k_seq ?_)
 refine k_draw 11 Follows (by kernel_rfl) m ?_
 refine q_fieldAddr (i := 0) 11 Tryd.underlying32 rfl Tryd.sizeOf30 (by decide) rfl (by kernel_rfl) rfl f rfl rfl rfl fun a f => q_boxCell (i := 1) 11 1 Pl30 rfl rfl rfl (by kernel_rfl) rfl f rfl rfl rfl fun a f => q_mv 2 11 rfl (by kernel_rfl) f rfl rfl rfl fun a f => q_fieldAddr (i := 3) 11 Tryd.underlying32 rfl Tryd.sizeOf30 (by decide) rfl (by kernel_rfl) rfl f rfl rfl rfl fun a f => q_boxCell (i := 4) 11 1 Pl30 rfl rfl rfl (by kernel_rfl) rfl f rfl rfl rfl fun a f => q_mv 5 11 rfl (by kernel_rfl) f rfl rfl rfl fun a f => ?_
 obtain ⟨aE, aF, hd⟩ := bind_some hd
 refine q_own_at (i := 6) 11 2 m aD rfl T30 aF rfl (by kernel_rfl) rfl f rfl rfl rfl rfl fun aG a aH f => q_own_load (i := 7) 11 2 aD rfl Pl28 aH aF rfl (by kernel_rfl) rfl f rfl rfl rfl fun aI a aJ f => q_mv 8 11 rfl (by kernel_rfl) f rfl rfl rfl fun a f => q_one (i := 9) rfl (by kernel_rfl) rfl fun aK w aL m aM aM => ?_
 have aJ := rd1 aL aJ
 have aD := Ow.mono (RSl.mono (RI.mono _)) aL aD
 obtain ⟨aN, aO, hd⟩ := bind_some hd
 refine l_res f rfl rfl Tryd.call44 (Wk.C m aJ aO) fun aP aQ aR w aS m aT a f => ?_
 obtain ⟨aU, rfl, rfl, aV⟩ := aT
 have aJ := rd1 aS aJ
 have aD := Ow.mono (RSl.mono (RI.mono _)) aS aD
 refine l_nil ?_
 refine aM aQ [] _ _ aS m ?_
 obtain ⟨aW, aX, hd⟩ := bind_some hd
 refine q_own_at (i := 10) 11 2 m aD rfl T30 aX rfl (by kernel_rfl) rfl f rfl rfl rfl rfl fun aY a aZ f => q_end fun a0 w a1 m => ?_
 have aJ := rd1 a1 aJ
 have aV := rd1 a1 aV
 have aD := Ow.mono (RSl.mono (RI.mono _)) a1 aD
 refine l_own_store 2 m aD rfl Tryd.sizeOf28 f rfl rfl aZ aX aV.cells aV.one1 aV fun a2 w m a3 => l_nil (k_seq (k_region ?_))
 refine l_boxAgg 1 0 (ds := [v0_0]) m Ag32 f rfl rfl rfl rfl rfl fun a f => l_boxStore 0 0 (ds := [v0_0]) m Tryd.sizeOf32 f rfl rfl rfl (ones_cons (Ow.one1 2 m a3 rfl) ones_nil) rfl (Nat.le_of_ble_eq_true rfl) rfl fun w m => l_nil ?_
 refine k_ret ?_
 have a4 := rr_agg (P := Tryd.prog) 0 m Ag32 f (s := 6) rfl rfl rfl
 have m := m.front 2 rfl
 have m := m.eraseAt 2
 have m := m.eraseAt 1
 obtain rfl := sj hd
 exact ⟨[(.agg #[v0_0])], ⟨a4, trivial⟩, f.defers, _, [a2], (GLe.trans aj (GLe.trans aq (GLe.trans aB (GLe.trans aL (GLe.trans aS a1))))), m, _, rfl, rfl, a3⟩

theorem Wk.e0 {W w : World} {G : GH} {H : List Itm} {v0_0 : Value} {x0_0 : (List (List Int))} (m : Mem W G w (H)) (h0_0 : RSl (RSl (RI .i64)) G v0_0 x0_0) {y : ((List (List Int)))} (hd : D.e0 x0_0 = some y) :
  Calls Tryd.prog 18 #[(.agg #[v0_0])] w (Res W G H (fun G' Ho v => ∃ r0 : Value, ∃ i0 : Itm, Ho = [i0] ∧ v = (.agg #[r0]) ∧ Ow (RSl (RI .i64)) 28 G' i0 r0 y)) := by
 refine calls_b (args := [(.agg #[v0_0])]) (N := 30) [.cell 2 32] Tryd.func18 rfl rfl (Nat.le_of_ble_eq_true rfl) rfl fun a f => ?_
 unfold D.e0 at hd
 refine k_seq (k_region ?_)
 refine l_box (cs := [v0_0]) m f rfl rfl rfl fun aa w a m f => l_alloc (cs := [(.slice none 0 0)]) Tryd.zeroValue32 m f rfl rfl fun ab w a m f => l_nil (k_seq (k_region ?_))
 refine l_boxAgg 1 0 (ds := [v0_0]) m Ag32 f rfl rfl rfl rfl rfl fun a f => ?_
 obtain ⟨ac, ad, hd⟩ := bind_some hd
 refine l_res f rfl rfl Tryd.call27 (Wk.g m h0_0 ad) fun ae af ag w ah m ai a f => ?_
 obtain ⟨rfl, rfl⟩ := ai
 have h0_0 := rd2 ah h0_0
 obtain ⟨aj, ak, hd⟩ := bind_some hd
 refine l_res f rfl rfl Tryd.call31 (Wk.g0 m  ak) fun al am an w ao m ap a f => ?_
 obtain ⟨aq, ar, rfl, rfl, au⟩ := ap
 have h0_0 := rd2 ao h0_0
 refine l_alloc (cs := [(.slice none 0 0)]) Tryd.zeroValue32 m f rfl rfl fun av w a m f => l_boxStore 0 0 (ds := [aq]) m Tryd.sizeOf32 f rfl rfl rfl (ones_cons (Ow.one1 1 m au rfl) ones_nil) rfl (Nat.le_of_ble_eq_true rfl) rfl fun w m => l_nil (k_seq (k_seq (k_region ?_)))
 refine l_as f rfl rfl fun a f => l_nil ?_
 obtain ⟨aw, ax, hd⟩ := bind_some hd
 refine k_cut (fun a w => ∃ ay : List (List Int), ay = aw ∧ ∃ (az : GH) (aA : Itm), GLe am az ∧ Fr a 30 [(2, (.pointer (some ⟨ab, 0, none⟩))), (3, (.pointer (some ⟨av, 0, none⟩)))] ∧ Mem W az w (Itm.box ab 32 [(.slice none 0 0)] :: Itm.box av 32 [aq] :: aA :: H) ∧ Ow (RSl (RI .i64)) 28 az aA aq ay) ?_ ?_
 ·refine k_block ?_
  have m := m.front 2 rfl
  have m : Mem W am w (Itm.box aa 32 [v0_0] :: Itm.box ab 32 [(.slice none 0 0)] :: Itm.box av 32 [aq] :: ar :: H) := m.front 3 rfl
  refine k_loop (fun aB a w => ∃ aC : Int, ∃ aD : List (List Int), (aC, aD) = aB ∧ ∃ (aE : GH) (aF : Itm), GLe am aE ∧ Fr a 30 [(1, (.pointer (some ⟨aa, 0, none⟩))), (2, (.pointer (some ⟨ab, 0, none⟩))), (3, (.pointer (some ⟨av, 0, none⟩))), (4, (.int .i64 aC))] ∧ Mem W aE w (Itm.box aa 32 [v0_0] :: Itm.box ab 32 [(.slice none 0 0)] :: Itm.box av 32 [aq] :: aF :: H) ∧ Ow (RSl (RI .i64)) 28 aE aF aq aD) ax ⟨_, _, rfl, _, ar, (GLe.refl _), f.weak ⟨rfl, rfl, rfl, rfl, trivial⟩, m, au⟩ ?_
  clear ax f m
  rintro aB aG aH aI a w ⟨aC, aD, rfl, aE, aF, aJ, f, m, aK⟩
  have h0_0 := rd2 aJ h0_0
  refine k_seq (k_seq (k_region ?_))
  refine l_mv f rfl rfl fun a f => l_boxAgg 0 0 (ds := [v0_0]) m Ag32 f rfl rfl rfl rfl rfl fun a f => ?_
  obtain ⟨aL, aM, aH⟩ := bind_some aH
  refine l_res f rfl rfl Tryd.call27 (Wk.g m h0_0 aM) fun aN aO aP w aQ m aR a f => ?_
  obtain ⟨rfl, rfl⟩ := aR
  have h0_0 := rd2 aQ h0_0
  have aK := Ow.mono (RSl.mono (RI.mono _)) aQ aK
  refine l_in f rfl rfl rfl b_lss fun a f => l_nil ?_
  rcases cond_some aH with ⟨aS, aH⟩ | ⟨aS, aH⟩
  ·refine k_true f rfl aS ?_
   refine k_skip ?_
   refine k_seq (k_block (k_seq (k_region ?_)))
   refine l_as f rfl rfl fun a f => l_nil ?_
   obtain ⟨aT, aU, aH⟩ := bind_some aH
   refine k_cut (fun a w => ∃ aV : List (List Int), aV = aT ∧ ∃ (aW : GH) (aX : Itm), GLe aO aW ∧ Fr a 30 [(1, (.pointer (some ⟨aa, 0, none⟩))), (2, (.pointer (some ⟨ab, 0, none⟩))), (3, (.pointer (some ⟨av, 0, none⟩))), (4, (.int .i64 aC))] ∧ Mem W aW w (Itm.box aa 32 [v0_0] :: Itm.box ab 32 [(.slice none 0 0)] :: Itm.box av 32 [aq] :: aX :: H) ∧ Ow (RSl (RI .i64)) 28 aW aX aq aV) ?_ ?_
   ·refine k_block ?_
    refine k_loop (fun aY a w => ∃ aZ : Int, ∃ a0 : List (List Int), (aZ, a0) = aY ∧ ∃ (a1 : GH) (a2 : Itm), GLe aO a1 ∧ Fr a 30 [(1, (.pointer (some ⟨aa, 0, none⟩))), (2, (.pointer (some ⟨ab, 0, none⟩))), (3, (.pointer (some ⟨av, 0, none⟩))), (4, (.int .i64 aC)), (5, (.int .i64 aZ))] ∧ Mem W a1 w (Itm.box aa 32 [v0_0] :: Itm.box ab 32 [(.slice none 0 0)] :: Itm.box av 32 [aq] :: a2 :: H) ∧ Ow (RSl (RI .i64)) 28 a1 a2 aq a0) aU ⟨_, _, rfl, _, aF, (GLe.refl _), f.weak ⟨rfl, rfl, rfl, rfl, rfl, trivial⟩, m, aK⟩ ?_
    clear aU f m
    rintro aY a3 a4 a5 a w ⟨aZ, a0, rfl, a1, a2, a6, f, m, a7⟩
    have h0_0 := rd2 a6 h0_0
    refine k_seq (k_seq (k_region ?_))
    refine l_mv f rfl rfl fun a f => l_mv f rfl rfl fun a f => l_in f rfl rfl rfl b_lss fun a f => l_nil ?_
    rcases cond_some a4 with ⟨a8, a4⟩ | ⟨a8, a4⟩
    ·refine k_true f rfl a8 ?_
     refine k_skip ?_
     refine k_seq (k_block (k_seq (k_region ?_)))
     refine l_boxAgg 0 0 (ds := [v0_0]) m Ag32 f rfl rfl rfl rfl rfl fun a f => l_mv f rfl rfl fun a f => l_mv f rfl rfl fun a f => ?_
     obtain ⟨a9, ba, a4⟩ := bind_some a4
     refine l_res f rfl rfl Tryd.call24 (Wk.G m h0_0 ba) fun bb bc bd w be m bf a f => ?_
     obtain ⟨rfl, rfl⟩ := bf
     have h0_0 := rd2 be h0_0
     have a7 := Ow.mono (RSl.mono (RI.mono _)) be a7
     refine l_op f rfl rfl rfl (r_not (f.eval rfl)) fun a f => l_nil ?_
     rcases cond_some a4 with ⟨bg, a4⟩ | ⟨bg, a4⟩
     ·refine k_true f rfl bg ?_
      refine k_region ?_
      refine l_boxAgg 2 0 (ds := [aq]) m Ag32 f rfl rfl rfl rfl rfl fun a f => l_mv f rfl rfl fun a f => l_mv f rfl rfl fun a f => ?_
      have m : Mem W bc w (a2 :: Itm.box aa 32 [v0_0] :: Itm.box ab 32 [(.slice none 0 0)] :: Itm.box av 32 [aq] :: H) := m.front 3 rfl
      obtain ⟨bh, bi, a4⟩ := bind_some a4
      refine l_res f rfl rfl Tryd.call32 (Wk.l0 m a7 bi) fun bj bk bl w bm m bn a f => ?_
      obtain ⟨bo, rfl, rfl, bp⟩ := bn
      have h0_0 := rd2 bm h0_0
      refine l_boxStore 3 0 (ds := [aq]) m Tryd.sizeOf32 f rfl rfl rfl (ones_cons (Ow.one1 0 m bp rfl) ones_nil) rfl (Nat.le_of_ble_eq_true rfl) rfl fun w m => l_nil (k_region ?_)
      refine l_mv f rfl rfl fun a f => l_in f rfl rfl rfl b_add fun a f => l_as f rfl rfl fun a f => l_nil ?_
      have m := m.front 3 rfl
      have m := m.front 3 rfl
      have m : Mem W bk w (Itm.box aa 32 [v0_0] :: Itm.box ab 32 [(.slice none 0 0)] :: Itm.box av 32 [aq] :: bo :: H) := m.front 3 rfl
      obtain rfl := sj a4
      exact ⟨_, rfl, _, _, rfl, _, bo, (GLe.trans a6 (GLe.trans be bm)), f.weak ⟨rfl, rfl, rfl, rfl, rfl, trivial⟩, m, bp⟩
     ·refine k_false f rfl bg ?_
      refine k_skip ?_
      refine k_region ?_
      refine l_mv f rfl rfl fun a f => l_in f rfl rfl rfl b_add fun a f => l_as f rfl rfl fun a f => l_nil ?_
      obtain rfl := sj a4
      exact ⟨_, rfl, _, _, rfl, _, a2, (GLe.trans a6 be), f.weak ⟨rfl, rfl, rfl, rfl, rfl, trivial⟩, m, a7⟩
    ·refine k_false f rfl a8 ?_
     refine k_exit rfl ?_
     obtain rfl := sj a4
     obtain rfl := a5 _ rfl
     exact ⟨_, rfl, _, a2, a6, f.weak ⟨rfl, rfl, rfl, rfl, trivial⟩, m, a7⟩
   ·rintro a w ⟨aV, rfl, aW, aX, bq, f, m, br⟩
    have h0_0 := rd2 bq h0_0
    refine k_region ?_
    refine l_mv f rfl rfl fun a f => l_in f rfl rfl rfl b_add fun a f => l_as f rfl rfl fun a f => l_nil ?_
    obtain rfl := sj aH
    exact ⟨_, rfl, _, _, rfl, _, aX, (GLe.trans aJ (GLe.trans aQ bq)), f.weak ⟨rfl, rfl, rfl, rfl, trivial⟩, m, br⟩
  ·refine k_false f rfl aS ?_
   refine k_exit rfl ?_
   have m := m.front 3 rfl
   have m := m.front 3 rfl
   have m : Mem W aO w (Itm.box ab 32 [(.slice none 0 0)] :: Itm.box av 32 [aq] :: aF :: Itm.box aa 32 [v0_0] :: H) := m.front 3 rfl
   have m := m.eraseAt 3
   obtain rfl := sj aH
   obtain rfl := aI _ rfl
   exact ⟨_, rfl, _, aF, (GLe.trans aJ aQ), f.weak ⟨rfl, rfl, trivial⟩, m, aK⟩
 ·rintro a w ⟨ay, rfl, az, aA, bs, f, m, bt⟩
  refine k_seq (k_region ?_)
  refine l_boxAgg 1 0 (ds := [aq]) m Ag32 f rfl rfl rfl rfl rfl fun a f => l_boxStore 0 0 (ds := [aq]) m Tryd.sizeOf32 f rfl rfl rfl (ones_cons (Ow.one1 2 m bt rfl) ones_nil) rfl (Nat.le_of_ble_eq_true rfl) rfl fun w m => l_nil ?_
  refine k_ret ?_
  have bu := rr_agg (P := Tryd.prog) 0 m Ag32 f (s := 2) rfl rfl rfl
  have m := m.front 2 rfl
  have m := m.eraseAt 2
  have m := m.eraseAt 1
  obtain rfl := sj hd
  exact ⟨[(.agg #[aq])], ⟨bu, trivial⟩, f.defers, _, [aA], (GLe.trans ah (GLe.trans ao bs)), m, _, _, rfl, rfl, bt⟩

theorem Wk.f0 {W w : World} {G : GH} {H : List Itm} {v0_0 : Value} {x0_0 : (List (List Int))} (m : Mem W G w (H)) (h0_0 : RSl (RSl (RI .i64)) G v0_0 x0_0) {y : ((List (List Int))) × Bool} (hd : D.f0 x0_0 = some y) :
  Calls Tryd.prog 9 #[(.agg #[v0_0])] w (Res W G H (fun G' Ho v => ∃ r0 : Value, ∃ i0 : Itm, Ho = [i0] ∧ v = .tuple #[(.agg #[r0]), (.bool y.2)] ∧ Ow (RSl (RI .i64)) 28 G' i0 r0 y.1)) := by
 refine calls_b (args := [(.agg #[v0_0])]) (N := 10) [.cell 2 32, .tmp 3] Tryd.func9 rfl rfl (Nat.le_of_ble_eq_true rfl) rfl fun a f => ?_
 unfold D.f0 at hd
 refine k_seq (k_region ?_)
 refine l_box (cs := [v0_0]) m f rfl rfl rfl fun aa w a m f => l_alloc (cs := [(.slice none 0 0)]) Tryd.zeroValue32 m f rfl rfl fun ab w a m f => l_as f rfl rfl fun a f => l_nil (k_seq (k_seq (k_region ?_)))
 refine l_boxAgg 1 0 (ds := [v0_0]) m Ag32 f rfl rfl rfl rfl rfl fun a f => ?_
 obtain ⟨ac, ad, hd⟩ := bind_some hd
 refine l_res f rfl rfl Tryd.call17 (Wk.q m h0_0 ad) fun ae af ag w ah m ai a f => ?_
 obtain ⟨rfl, rfl⟩ := ai
 have h0_0 := rd2 ah h0_0
 refine l_op f rfl rfl rfl (r_not (f.eval rfl)) fun a f => l_nil ?_
 rcases cond_some hd with ⟨aj, hd⟩ | ⟨aj, hd⟩
 ·refine k_true f rfl aj ?_
  refine k_seq (k_region ?_)
  have ak : ∀ w, (Instr.build 32 #[]).run Tryd.prog w = .ok (.agg #[(.slice none 0 0)]) w := by intro w; simp [Instr.build, Instr.fill, cells_int, cells_bool, cells_string, cells_slice, cells_pointer, cells_agg]
  refine l_build f rfl rfl ak fun a f => l_boxStore 0 0 (ds := [(.slice none 0 0)]) m Tryd.sizeOf32 f rfl rfl rfl (ones_cons rfl ones_nil) rfl (Nat.le_of_ble_eq_true rfl) rfl fun w m => l_as f rfl rfl fun a f => l_nil ?_
  refine k_ret ?_
  obtain ⟨al, m, am⟩ := Ow.nil (RSl (RI .i64)) 28 m
  have an := rr_agg (P := Tryd.prog) 1 m Ag32 f (s := 2) rfl rfl rfl
  have m := m.eraseAt 2
  have m := m.eraseAt 1
  obtain rfl := sj hd
  exact ⟨[(.agg #[(.slice none 0 0)]), (.bool false)], ⟨an, f.get _ _ rfl, trivial⟩, f.defers, _, [al], ah, m, _, _, rfl, rfl, am⟩
 ·refine k_false f rfl aj ?_
  refine k_skip ?_
  refine k_seq (k_region ?_)
  refine l_boxAgg 1 0 (ds := [v0_0]) m Ag32 f rfl rfl rfl rfl rfl fun a f => ?_
  obtain ⟨ao, ap, hd⟩ := bind_some hd
  refine l_res f rfl rfl Tryd.call18 (Wk.e0 m h0_0 ap) fun aq ar au w av m aw a f => ?_
  obtain ⟨ax, ay, rfl, rfl, az⟩ := aw
  have h0_0 := rd2 av h0_0
  refine l_boxStore 1 0 (ds := [ax]) m Tryd.sizeOf32 f rfl rfl rfl (ones_cons (Ow.one1 0 m az rfl) ones_nil) rfl (Nat.le_of_ble_eq_true rfl) rfl fun w m => l_as f rfl rfl fun a f => l_nil ?_
  refine k_ret ?_
  have aA := rr_agg (P := Tryd.prog) 1 m Ag32 f (s := 2) rfl rfl rfl
  have m := m.eraseAt 2
  have m := m.eraseAt 1
  obtain rfl := sj hd
  exact ⟨[(.agg #[ax]), (.bool true)], ⟨aA, f.get _ _ rfl, trivial⟩, f.defers, _, [ay], (GLe.trans ah av), m, _, _, rfl, rfl, az⟩

end Go.Proofs.YtebbefpdncgoiaaDoor

set_option maxRecDepth 100000
namespace Go.Proofs.YtebbefpdncgoiaaDoor
open Go Go.Sx
theorem T56 : SlT Tryd.prog 56 60 1 4 (.int .u32 0) := ⟨Tryd.underlying56, Tryd.t60, by kernel_rfl, by kernel_rfl, by kernel_rfl, by kernel_rfl⟩
theorem Pl60 : Plain Tryd.prog 60 := Tryd.isAgg60

theorem Wk.M {W w : World} {G : GH} {H : List Itm} {x0 : Int} {x1 : Int} {x2 : Int} (m : Mem W G w (H))  {y : Bool} (hd : D.M x0 x1 x2 = some y) :
  Calls Tryd.prog 54 #[(.int .i64 x0), (.int .i64 x1), (.int .i64 x2)] w (Res W G H (fun _ Ho v => Ho = [] ∧ v = (.bool y))) := by
 refine calls_b (args := [(.int .i64 x0), (.int .i64 x1), (.int .i64 x2)]) (N := 15) [.tmp 6] Tryd.func54 rfl rfl (Nat.le_of_ble_eq_true rfl) rfl fun a f => ?_
 unfold D.M at hd
 refine k_seq (k_region ?_)
 refine l_as f rfl rfl fun a f => l_nil (k_seq (k_region ?_))
 refine l_mv f rfl rfl fun a f => l_mv f rfl rfl fun a f => l_in f rfl rfl rfl b_leq fun a f => l_mv f rfl rfl fun a f => ?_
 refine l_cut 4 (fun a w => ∃ aa, GLe G aa ∧ Mem W aa w (H) ∧ Fr a 15 [(0, (.int .i64 x0)), (1, (.int .i64 x1)), (2, (.int .i64 x2)), (7, (.int .i64 x1)), (8, (.int .i64 x0)), (9, (.bool (decide (x1 ≤ x0)))), (10, (.bool (decide (x1 ≤ x0)))), (14, (.bool ((decide (x1 ≤ x0)) && (decide (x0 ≤ x2)))))]) ?_ ?_
 ·rcases Bool.eq_false_or_eq_true (decide (x1 ≤ x0)) with ab | ab
  ·refine l_run f rfl rfl ab ?_
   refine l_mv f rfl rfl fun a f => l_run f rfl rfl ab ?_
   refine l_mv f rfl rfl fun a f => l_run f rfl rfl ab ?_
   refine l_in f rfl rfl rfl b_leq fun a f => l_op f rfl rfl rfl (r_pickT (f.eval rfl) ab (f.eval rfl)) fun a f => ?_
   exact ⟨_, (GLe.refl _), m, f.weak ⟨rfl, rfl, rfl, rfl, rfl, rfl, rfl, by rw [ab]; rfl, trivial⟩⟩
  ·refine l_not' f rfl rfl rfl ab fun a f => ?_
   refine l_not' f rfl rfl rfl ab fun a f => l_not' f rfl rfl rfl ab fun a f => l_op f rfl rfl rfl (r_pickF (f.eval rfl) ab (f.eval rfl)) fun a f => ?_
   exact ⟨_, (GLe.refl _), m, f.weak ⟨rfl, rfl, rfl, rfl, rfl, rfl, rfl, by rw [ab]; rfl, trivial⟩⟩
 ·rintro a w ⟨aa, ac, m, f⟩
  refine l_as f rfl rfl fun a f => l_nil ?_
  refine k_ret ?_
  obtain rfl := sj hd
  exact ⟨[(.bool ((decide (x1 ≤ x0)) && (decide (x0 ≤ x2))))], ⟨f.get _ _ rfl, trivial⟩, f.defers, _, [], ac, m, rfl, rfl⟩

theorem Wk.H {W w : World} {G : GH} {H : List Itm} {v0 : Value} {x0 : (List Int)} {x1 : Int} (m : Mem W G w (H)) (h0 : RSl (RI .i64) G v0 x0) {y : Bool} (hd : D.H x0 x1 = some y) :
  Calls Tryd.prog 56 #[v0, (.int .i64 x1)] w (Res W G H (fun _ Ho v => Ho = [] ∧ v = (.bool y))) := by
 refine calls_b (args := [v0, (.int .i64 x1)]) (N := 33) [.tmp 4] Tryd.func56 rfl rfl (Nat.le_of_ble_eq_true rfl) rfl fun a f => ?_
 unfold D.H at hd
 refine k_seq (k_region ?_)
 refine l_as f rfl rfl fun a f => l_nil (k_seq (k_seq (k_region ?_)))
 refine l_mv f rfl rfl fun a f => l_len Tryd.underlying28 f rfl rfl h0 fun a f => l_mv f rfl rfl fun a f => l_nil ?_
 obtain ⟨aa, ab, hd⟩ := bind_some hd
 refine k_cut (fun a w => ∃ q_181' : Unit, aa = .inl q_181' ∧ ∃ (ac : GH), GLe G ac ∧ Fr a 33 [] ∧ Mem W ac w (H)) ?_ ?_
 ·refine k_block ?_
  refine k_loop (fun ad a w => ∃ ae : Int, ae = ad ∧ ∃ (af : GH), GLe G af ∧ Fr a 33 [(0, v0), (1, (.int .i64 x1)), (7, v0), (8, (.int .i64 (x0.length : Int))), (9, (.int .i64 ae))] ∧ Mem W af w (H)) ab ⟨_, rfl, _, (GLe.refl _), f.weak ⟨rfl, rfl, rfl, rfl, rfl, trivial⟩, m⟩ ?_
  clear ab f m
  rintro ad ag ah ai a w ⟨ae, rfl, af, aj, f, m⟩
  have h0 := rd1 aj h0
  refine k_seq (k_region ?_)
  refine l_in f rfl rfl rfl b_lss fun a f => l_nil (k_seq ?_)
  rcases cond_some ah with ⟨ak, ah⟩ | ⟨ak, ah⟩
  ·refine k_true f rfl ak ?_
   refine k_skip ?_
   refine k_seq (k_block (k_seq (k_region ?_)))
   refine l_mv f rfl rfl fun a f => ?_
   obtain ⟨al, am, ah⟩ := bind_some ah
   refine l_at T28 f rfl rfl rfl h0 am fun an ao a ap aq f => ?_
   subst aq
   refine l_loadAt m Pl2 f rfl rfl ap fun a f => l_as f rfl rfl fun a f => l_as f rfl rfl fun a f => l_nil (k_seq (k_region ?_))
   refine l_mv f rfl rfl fun a f => l_mv f rfl rfl fun a f => l_in f rfl rfl rfl b_sub fun a f => ?_
   obtain ⟨ar, au, ah⟩ := bind_some ah
   refine l_res f rfl rfl Tryd.call54 (Wk.M m  au) fun av aw ax w ay m az a f => ?_
   obtain ⟨rfl, rfl⟩ := az
   have h0 := rd1 ay h0
   refine l_op f rfl rfl rfl (r_not (f.eval rfl)) fun a f => l_mv f rfl rfl fun a f => ?_
   obtain ⟨aA, aB, ah⟩ := bind_some ah
   refine l_cut 12 (fun a w => ∃ aC, GLe aw aC ∧ Mem W aC w (H) ∧ Fr a 33 [(0, v0), (1, (.int .i64 x1)), (5, (.int .i64 ae)), (6, (.int .i64 al)), (7, v0), (8, (.int .i64 (x0.length : Int))), (9, (.int .i64 ae)), (14, (.int .i64 al)), (15, (.int .i64 x1)), (16, (.int .i64 (IntKind.i64.wrap (x1 - 1)))), (17, (.bool ar)), (18, (.bool (!ar))), (19, (.bool (!ar))), (31, (.bool aA))]) ?_ ?_
   ·rcases cond_some aB with ⟨aD, aB⟩ | ⟨aD, aB⟩
    ·refine l_not' f rfl rfl rfl aD fun a f => ?_
     refine l_not' f rfl rfl rfl aD fun a f => l_not' f rfl rfl rfl aD fun a f => l_notU f rfl rfl rfl fun a f => l_notU f rfl rfl rfl fun a f => l_notU f rfl rfl rfl fun a f => l_notU f rfl rfl rfl fun a f => l_notU f rfl rfl rfl fun a f => l_notU f rfl rfl rfl fun a f => l_notU f rfl rfl rfl fun a f => l_not' f rfl rfl rfl aD fun a f => l_op f rfl rfl rfl (r_pickT (f.eval rfl) aD (f.eval rfl)) fun a f => ?_
     obtain rfl := sj aB
     exact ⟨_, (GLe.refl _), m, f.weak ⟨rfl, rfl, rfl, rfl, rfl, rfl, rfl, rfl, rfl, rfl, rfl, rfl, rfl, rfl, trivial⟩⟩
    ·refine l_run f rfl rfl aD ?_
     refine l_mv f rfl rfl fun a f => l_run f rfl rfl aD ?_
     refine l_in f rfl rfl rfl b_gtr fun a f => l_run f rfl rfl aD ?_
     refine l_mv f rfl rfl fun a f => ?_
     obtain ⟨aE, aF, aB⟩ := bind_some aB
     refine l_cut 8 (fun a w => ∃ aG, GLe aw aG ∧ Mem W aG w (H) ∧ Fr a 33 [(0, v0), (1, (.int .i64 x1)), (5, (.int .i64 ae)), (6, (.int .i64 al)), (7, v0), (8, (.int .i64 (x0.length : Int))), (9, (.int .i64 ae)), (14, (.int .i64 al)), (15, (.int .i64 x1)), (16, (.int .i64 (IntKind.i64.wrap (x1 - 1)))), (17, (.bool ar)), (18, (.bool (!ar))), (19, (.bool (!ar))), (20, (.int .i64 ae)), (21, (.bool (decide ((0 : Int) < ae)))), (22, (.bool (decide ((0 : Int) < ae)))), (30, (.bool aE))]) ?_ ?_
     ·rcases cond_some aF with ⟨aH, aF⟩ | ⟨aH, aF⟩
      ·refine l_run f rfl rfl aH ?_
       refine l_mv f rfl rfl fun a f => l_run f rfl rfl aH ?_
       refine l_mv f rfl rfl fun a f => l_run f rfl rfl aH ?_
       refine l_in f rfl rfl rfl b_sub fun a f => l_run f rfl rfl aH ?_
       obtain ⟨aI, aJ, aF⟩ := bind_some aF
       refine l_at T28 f rfl rfl rfl h0 aJ fun aK aL a aM aN f => ?_
       subst aN
       refine l_run f rfl rfl aH ?_
       refine l_loadAt m Pl2 f rfl rfl aM fun a f => l_run f rfl rfl aH ?_
       refine l_mv f rfl rfl fun a f => l_run f rfl rfl aH ?_
       refine l_in f rfl rfl rfl b_geq fun a f => l_run f rfl rfl aD ?_
       refine l_op f rfl rfl rfl (r_pickT (f.eval rfl) aH (f.eval rfl)) fun a f => ?_
       obtain rfl := sj aF
       exact ⟨_, (GLe.refl _), m, f.weak ⟨rfl, rfl, rfl, rfl, rfl, rfl, rfl, rfl, rfl, rfl, rfl, rfl, rfl, rfl, rfl, rfl, rfl, trivial⟩⟩
      ·refine l_not' f rfl rfl rfl aH fun a f => ?_
       refine l_not' f rfl rfl rfl aH fun a f => l_not' f rfl rfl rfl aH fun a f => l_not' f rfl rfl rfl aH fun a f => l_not' f rfl rfl rfl aH fun a f => l_not' f rfl rfl rfl aH fun a f => l_not' f rfl rfl rfl aH fun a f => l_run f rfl rfl aD ?_
       refine l_op f rfl rfl rfl (r_pickF (f.eval rfl) aH (f.eval rfl)) fun a f => ?_
       obtain rfl := sj aF
       exact ⟨_, (GLe.refl _), m, f.weak ⟨rfl, rfl, rfl, rfl, rfl, rfl, rfl, rfl, rfl, rfl, rfl, rfl, rfl, rfl, rfl, rfl, rfl, trivial⟩⟩
     ·rintro a w ⟨aG, aO, m, f⟩
      have h0 := rd1 aO h0
      refine l_op f rfl rfl rfl (r_pickF (f.eval rfl) aD (f.eval rfl)) fun a f => ?_
      obtain rfl := sj aB
      exact ⟨_, aO, m, f.weak ⟨rfl, rfl, rfl, rfl, rfl, rfl, rfl, rfl, rfl, rfl, rfl, rfl, rfl, rfl, trivial⟩⟩
   ·rintro a w ⟨aC, aP, m, f⟩
    have h0 := rd1 aP h0
    refine l_nil ?_
    rcases cond_some ah with ⟨aQ, ah⟩ | ⟨aQ, ah⟩
    ·refine k_true f rfl aQ ?_
     refine k_seq (k_region ?_)
     refine l_as f rfl rfl fun a f => l_nil ?_
     refine k_ret ?_
     obtain rfl := sj ah
     obtain rfl := ai _ rfl
     obtain rfl := sj hd
     exact ⟨[(.bool false)], ⟨f.get _ _ rfl, trivial⟩, f.defers, _, [], (GLe.trans aj (GLe.trans ay aP)), m, rfl, rfl⟩
    ·refine k_false f rfl aQ ?_
     refine k_skip ?_
     refine k_region ?_
     refine l_in f rfl rfl rfl b_add fun a f => l_mv f rfl rfl fun a f => l_nil ?_
     obtain rfl := sj ah
     exact ⟨_, rfl, _, rfl, _, (GLe.trans aj (GLe.trans ay aP)), f.weak ⟨rfl, rfl, rfl, rfl, rfl, trivial⟩, m⟩
  ·refine k_false f rfl ak ?_
   refine k_exit rfl ?_
   obtain rfl := sj ah
   obtain rfl := ai _ rfl
   exact ⟨_, rfl, _, aj, f.weak trivial, m⟩
 ·rintro a w ⟨_, rfl, ac, aR, f, m⟩
  refine k_seq (k_region ?_)
  refine l_as f rfl rfl fun a f => l_nil ?_
  refine k_ret ?_
  obtain rfl := sj hd
  exact ⟨[(.bool true)], ⟨f.get _ _ rfl, trivial⟩, f.defers, _, [], aR, m, rfl, rfl⟩

theorem Wk.F {W w : World} {G : GH} {H : List Itm} {v0 : Value} {x0 : (List Int)} (m : Mem W G w (H)) (h0 : RSl (RI .i64) G v0 x0) {y : ((List Int)) × Bool} (hd : D.F x0 = some y) :
  Calls Tryd.prog 45 #[v0] w (Res W G H (fun G' Ho v => ∃ r0 : Value, ∃ i0 : Itm, Ho = [i0] ∧ v = .tuple #[r0, (.bool y.2)] ∧ Ow (RI .i64) 3 G' i0 r0 y.1)) := by
 refine calls_b (args := [v0]) (N := 39) [.tmp 2, .tmp 3] Tryd.func45 rfl rfl (Nat.le_of_ble_eq_true rfl) rfl fun a f => ?_
 unfold D.F at hd
 refine k_seq (k_region ?_)
 refine l_as f rfl rfl fun a f => l_as f rfl rfl fun a f => l_nil (k_seq (k_region ?_))
 refine l_mv f rfl rfl fun a f => l_len Tryd.underlying28 f rfl rfl h0 fun a f => l_as f rfl rfl fun a f => l_nil (k_seq (k_seq (k_region ?_)))
 refine l_mv f rfl rfl fun a f => l_in f rfl rfl rfl b_lss fun a f => l_mv f rfl rfl fun a f => ?_
 refine l_cut 3 (fun a w => ∃ aa, GLe G aa ∧ Mem W aa w (H) ∧ Fr a 39 [(0, v0), (4, (.int .i64 (x0.length : Int))), (10, (.int .i64 (x0.length : Int))), (11, (.bool (decide ((x0.length : Int) < 1)))), (12, (.bool (decide ((x0.length : Int) < 1)))), (15, (.bool ((decide ((x0.length : Int) < 1)) || (decide ((16 : Int) < (x0.length : Int))))))]) ?_ ?_
 ·rcases Bool.eq_false_or_eq_true (decide ((x0.length : Int) < 1)) with ab | ab
  ·refine l_not' f rfl rfl rfl ab fun a f => ?_
   refine l_not' f rfl rfl rfl ab fun a f => l_op f rfl rfl rfl (r_pickT (f.eval rfl) ab (f.eval rfl)) fun a f => ?_
   exact ⟨_, (GLe.refl _), m, f.weak ⟨rfl, rfl, rfl, rfl, rfl, by rw [ab]; rfl, trivial⟩⟩
  ·refine l_run f rfl rfl ab ?_
   refine l_mv f rfl rfl fun a f => l_run f rfl rfl ab ?_
   refine l_in f rfl rfl rfl b_gtr fun a f => l_op f rfl rfl rfl (r_pickF (f.eval rfl) ab (f.eval rfl)) fun a f => ?_
   exact ⟨_, (GLe.refl _), m, f.weak ⟨rfl, rfl, rfl, rfl, rfl, by rw [ab]; rfl, trivial⟩⟩
 ·rintro a w ⟨aa, ac, m, f⟩
  have h0 := rd1 ac h0
  refine l_mv f rfl rfl fun a f => ?_
  obtain ⟨ad, ae, hd⟩ := bind_some hd
  refine l_cut 7 (fun a w => ∃ af, GLe aa af ∧ Mem W af w (H) ∧ Fr a 39 [(0, v0), (4, (.int .i64 (x0.length : Int))), (10, (.int .i64 (x0.length : Int))), (11, (.bool (decide ((x0.length : Int) < 1)))), (12, (.bool (decide ((x0.length : Int) < 1)))), (15, (.bool ((decide ((x0.length : Int) < 1)) || (decide ((16 : Int) < (x0.length : Int)))))), (16, (.bool ((decide ((x0.length : Int) < 1)) || (decide ((16 : Int) < (x0.length : Int)))))), (23, (.bool ad))]) ?_ ?_
  ·rcases cond_some ae with ⟨ag, ae⟩ | ⟨ag, ae⟩
   ·refine l_not' f rfl rfl rfl ag fun a f => ?_
    refine l_not' f rfl rfl rfl ag fun a f => l_not' f rfl rfl rfl ag fun a f => l_not' f rfl rfl rfl ag fun a f => l_not' f rfl rfl rfl ag fun a f => l_not' f rfl rfl rfl ag fun a f => l_op f rfl rfl rfl (r_pickT (f.eval rfl) ag (f.eval rfl)) fun a f => ?_
    obtain rfl := sj ae
    exact ⟨_, (GLe.refl _), m, f.weak ⟨rfl, rfl, rfl, rfl, rfl, rfl, rfl, rfl, trivial⟩⟩
   ·refine l_run f rfl rfl ag ?_
    refine l_mv f rfl rfl fun a f => l_run f rfl rfl ag ?_
    refine l_res f rfl rfl Tryd.call58 (Wk.h1 m h0) fun ah ai aj w ak m al a f => ?_
    obtain ⟨am, rfl, rfl⟩ := al
    have h0 := rd1 ak h0
    refine l_run f rfl rfl ag ?_
    obtain ⟨an, ao, ae⟩ := bind_some ae
    refine l_res f rfl rfl Tryd.call57 (Wk.j0 m h0 ao) fun ap aq ar w au m av a f => ?_
    obtain ⟨aw, ax, rfl, rfl, ay⟩ := av
    have h0 := rd1 au h0
    refine l_run f rfl rfl ag ?_
    refine l_mv f rfl rfl fun a f => l_run f rfl rfl ag ?_
    obtain ⟨az, aA, ae⟩ := bind_some ae
    refine l_res f rfl rfl Tryd.call56 (Ow.lendCall (RI.mono _) 0 ay m rfl (fun aB aC m aD => Wk.H m aD aA) (fun _ _ _ _ h => h)) fun aE aF aG w aH m aI a f => ?_
    obtain ⟨rfl, rfl⟩ := aI
    have h0 := rd1 aH h0
    have ay := od1 aH ay
    refine l_run f rfl rfl ag ?_
    refine l_op f rfl rfl rfl (r_not (f.eval rfl)) fun a f => l_op f rfl rfl rfl (r_pickF (f.eval rfl) ag (f.eval rfl)) fun a f => ?_
    obtain rfl := sj ae
    have m : Mem W aF w H := Mem.drop (H' := [ax]) m
    exact ⟨_, (GLe.trans ak (GLe.trans au aH)), m, f.weak ⟨rfl, rfl, rfl, rfl, rfl, rfl, rfl, rfl, trivial⟩⟩
  ·rintro a w ⟨af, aJ, m, f⟩
   have h0 := rd1 aJ h0
   refine l_nil ?_
   rcases cond_some hd with ⟨aK, hd⟩ | ⟨aK, hd⟩
   ·refine k_true f rfl aK ?_
    refine k_seq (k_region ?_)
    refine l_as f rfl rfl fun a f => l_as f rfl rfl fun a f => l_nil ?_
    refine k_ret ?_
    obtain ⟨aL, m, aM⟩ := Ow.nil (RI .i64) 3 m
    obtain rfl := sj hd
    exact ⟨[(.slice none 0 0), (.bool false)], ⟨f.get _ _ rfl, f.get _ _ rfl, trivial⟩, f.defers, _, [aL], (GLe.trans ac aJ), m, _, _, rfl, rfl, aM⟩
   ·refine k_false f rfl aK ?_
    refine k_skip ?_
    refine k_seq (k_region ?_)
    refine l_mv f rfl rfl fun a f => ?_
    obtain ⟨aN, aO, hd⟩ := bind_some hd
    refine l_make (R := (RI .i64)) m T63 rfl (by decide) rfl f rfl rfl rfl aO fun aP aQ w a m aR f => l_as f rfl rfl fun a f => l_nil (k_seq (k_seq (k_region ?_)))
    refine l_mv f rfl rfl fun a f => l_len Tryd.underlying28 f rfl rfl h0 fun a f => l_mv f rfl rfl fun a f => l_nil ?_
    obtain ⟨aS, aT, hd⟩ := bind_some hd
    refine k_cut (fun a w => ∃ aU : List Int, aU = aS ∧ ∃ (aV : GH) (aW : Itm), GLe af aV ∧ Fr a 39 [(5, aQ)] ∧ Mem W aV w (aW :: H) ∧ Ow (RI .i64) 3 aV aW aQ aU) ?_ ?_
    ·refine k_block ?_
     refine k_loop (fun aX a w => ∃ aY : List Int, ∃ aZ : Int, (aY, aZ) = aX ∧ ∃ (a0 : GH) (a1 : Itm), GLe af a0 ∧ Fr a 39 [(5, aQ), (26, v0), (27, (.int .i64 (x0.length : Int))), (28, (.int .i64 aZ))] ∧ Mem W a0 w (a1 :: H) ∧ Ow (RI .i64) 3 a0 a1 aQ aY) aT ⟨_, _, rfl, _, aP, (GLe.refl _), f.weak ⟨rfl, rfl, rfl, rfl, trivial⟩, m, aR⟩ ?_
     clear aT f m
     rintro aX a2 a3 a4 a w ⟨aY, aZ, rfl, a0, a1, a5, f, m, a6⟩
     have h0 := rd1 a5 h0
     refine k_seq (k_region ?_)
     refine l_in f rfl rfl rfl b_lss fun a f => l_nil (k_seq ?_)
     rcases cond_some a3 with ⟨a7, a3⟩ | ⟨a7, a3⟩
     ·refine k_true f rfl a7 ?_
      refine k_skip ?_
      refine k_seq (k_block (k_seq (k_region ?_)))
      refine l_mv f rfl rfl fun a f => ?_
      obtain ⟨a8, a9, a3⟩ := bind_some a3
      refine l_at T28 f rfl rfl rfl h0 a9 fun ba bb a bc bd f => ?_
      subst bd
      refine l_loadAt m Pl2 f rfl rfl bc fun a f => l_as f rfl rfl fun a f => l_as f rfl rfl fun a f => l_nil (k_region ?_)
      refine l_mv f rfl rfl fun a f => l_mv f rfl rfl fun a f => l_mv f rfl rfl fun a f => ?_
      obtain ⟨be, bf, a3⟩ := bind_some a3
      refine l_own_at 0 m a6 rfl T63 f rfl rfl rfl bf fun bg a bh f => l_own_store 0 m a6 rfl Tryd.sizeOf3 f rfl rfl bh bf rfl rfl rfl fun bi w m bj => l_nil (k_region ?_)
      refine l_in f rfl rfl rfl b_add fun a f => l_mv f rfl rfl fun a f => l_nil ?_
      obtain rfl := sj a3
      exact ⟨_, rfl, _, _, rfl, _, bi, a5, f.weak ⟨rfl, rfl, rfl, rfl, trivial⟩, m, bj⟩
     ·refine k_false f rfl a7 ?_
      refine k_exit rfl ?_
      obtain rfl := sj a3
      obtain rfl := a4 _ rfl
      exact ⟨_, rfl, _, a1, a5, f.weak ⟨rfl, trivial⟩, m, a6⟩
    ·rintro a w ⟨aU, rfl, aV, aW, bk, f, m, bl⟩
     refine k_seq (k_region ?_)
     refine l_mv f rfl rfl fun a f => l_as f rfl rfl fun a f => l_as f rfl rfl fun a f => l_nil ?_
     refine k_ret ?_
     obtain rfl := sj hd
     exact ⟨[aQ, (.bool true)], ⟨f.get _ _ rfl, f.get _ _ rfl, trivial⟩, f.defers, _, [aW], (GLe.trans ac (GLe.trans aJ bk)), m, _, _, rfl, rfl, bl⟩

theorem Wk.d {W w : World} {G : GH} {H : List Itm} {x0 : Int} (m : Mem W G w (H))  {y : Int} (hd : D.d x0 = some y) :
  Calls Tryd.prog 34 #[(.int .i64 x0)] w (Res W G H (fun _ Ho v => Ho = [] ∧ v = (.int .u32 y))) := by
 refine calls_b (args := [(.int .i64 x0)]) (N := 5) [.tmp 2] Tryd.func34 rfl rfl (Nat.le_of_ble_eq_true rfl) rfl fun a f => ?_
 unfold D.d at hd
 refine k_seq (k_region ?_)
 refine l_as f rfl rfl fun a f => l_nil (k_seq (k_region ?_))
 refine l_mv f rfl rfl fun a f => ?_
 obtain ⟨aa, hd⟩ := cond_none hd
 refine l_op f rfl rfl rfl (r_shl (f.eval rfl) (f.eval rfl) aa) fun a f => l_as f rfl rfl fun a f => l_nil ?_
 refine k_ret ?_
 obtain rfl := sj hd
 exact ⟨[(.int .u32 (ishl .u32 1 x0))], ⟨f.get _ _ rfl, trivial⟩, f.defers, _, [], (GLe.refl _), m, rfl, rfl⟩

theorem Wk.Y {W w : World} {G : GH} {H : List Itm} {v0 : Value} {it0 : Itm} {x0 : (List Int)} {x1 : Int} {x2 : Int} (m : Mem W G w (it0 :: H)) (o0 : Ow (RI .u32) 60 G it0 v0 x0) {y : ((List Int))} (hd : D.Y x0 x1 x2 = some y) :
  Calls Tryd.prog 46 #[v0, (.int .i64 x1), (.int .i64 x2)] w (Res W G H (fun G' Ho _ => ∃ i0 : Itm, Ho = [i0] ∧ Ow (RI .u32) 60 G' i0 v0 y)) := by
 refine calls_b (args := [v0, (.int .i64 x1), (.int .i64 x2)]) (N := 22) [] Tryd.func46 rfl rfl (Nat.le_of_ble_eq_true rfl) rfl fun a f => ?_
 unfold D.Y at hd
 refine k_seq ?_
 refine k_draw 8 Follows (by kernel_rfl) m ?_
 refine q_mv 0 8 rfl (by kernel_rfl) f rfl rfl rfl fun a f => q_mv 1 8 rfl (by kernel_rfl) f rfl rfl rfl fun a f => ?_
 obtain ⟨aa, ab, hd⟩ := bind_some hd
 refine q_own_at (i := 2) 8 0 m o0 rfl T56 ab rfl (by kernel_rfl) rfl f rfl rfl rfl rfl fun ac a ad f => q_own_load (i := 3) 8 0 o0 rfl Pl60 ad ab rfl (by kernel_rfl) rfl f rfl rfl rfl fun ae a af f => ?_
 subst af
 refine q_mv 4 8 rfl (by kernel_rfl) f rfl rfl rfl fun a f => ?_
 obtain ⟨ag, ah, hd⟩ := bind_some hd
 refine q_call (i := 5) 8 rfl (by kernel_rfl) rfl f rfl rfl rfl Tryd.call34 (fun _ _ w ai m => Wk.d m  ah) fun a f => q_p 6 8 rfl (by kernel_rfl) f rfl rfl rfl (fun _ => r_int (f.eval rfl) (f.eval rfl) b_or) fun a f => ?_
 obtain ⟨aj, ak, hd⟩ := bind_some hd
 refine q_own_at (i := 7) 8 0 m o0 rfl T56 ak rfl (by kernel_rfl) rfl f rfl rfl rfl rfl fun al a am f => q_end fun an w ao m => ?_
 have o0 := od1 ao o0
 refine l_own_store 0 m o0 rfl Tryd.sizeOf60 f rfl rfl am ak rfl rfl rfl fun ap w m aq => l_nil ?_
 refine k_draw 8 Follows (by kernel_rfl) m ?_
 refine q_mv 0 8 rfl (by kernel_rfl) f rfl rfl rfl fun a f => q_mv 1 8 rfl (by kernel_rfl) f rfl rfl rfl fun a f => ?_
 obtain ⟨ar, au, hd⟩ := bind_some hd
 refine q_own_at (i := 2) 8 0 m aq rfl T56 au rfl (by kernel_rfl) rfl f rfl rfl rfl rfl fun av a aw f => q_own_load (i := 3) 8 0 aq rfl Pl60 aw au rfl (by kernel_rfl) rfl f rfl rfl rfl fun ax a ay f => ?_
 subst ay
 refine q_mv 4 8 rfl (by kernel_rfl) f rfl rfl rfl fun a f => ?_
 obtain ⟨az, aA, hd⟩ := bind_some hd
 refine q_call (i := 5) 8 rfl (by kernel_rfl) rfl f rfl rfl rfl Tryd.call34 (fun _ _ w aB m => Wk.d m  aA) fun a f => q_p 6 8 rfl (by kernel_rfl) f rfl rfl rfl (fun _ => r_int (f.eval rfl) (f.eval rfl) b_or) fun a f => ?_
 obtain ⟨aC, aD, hd⟩ := bind_some hd
 refine q_own_at (i := 7) 8 0 m aq rfl T56 aD rfl (by kernel_rfl) rfl f rfl rfl rfl rfl fun aE a aF f => q_end fun aG w aH m => ?_
 have aq := od1 aH aq
 refine l_own_store 0 m aq rfl Tryd.sizeOf60 f rfl rfl aF aD rfl rfl rfl fun aI w m aJ => l_nil ?_
 obtain rfl := sj hd
 exact ⟨[], trivial, f.defers, _, [aI], (GLe.trans ao aH), m, _, rfl, aJ⟩

theorem Wk.o {W w : World} {G : GH} {H : List Itm} {v0 : Value} {v1 : Value} {x0 : (List Int)} {x1 : (List Int)} (m : Mem W G w (H)) (h0 : RSl (RI .i64) G v0 x0) (h1 : RSl (RI .i64) G v1 x1) {y : ((List Int)) × Bool} (hd : D.o x0 x1 = some y) :
  Calls Tryd.prog 33 #[v0, v1] w (Res W G H (fun G' Ho v => ∃ r0 : Value, ∃ i0 : Itm, Ho = [i0] ∧ v = .tuple #[r0, (.bool y.2)] ∧ Ow (RI .u32) 60 G' i0 r0 y.1)) := by
 refine calls_b (args := [v0, v1]) (N := 74) [.tmp 4, .tmp 5] Tryd.func33 rfl rfl (Nat.le_of_ble_eq_true rfl) rfl fun a f => ?_
 unfold D.o at hd
 refine k_seq (k_region ?_)
 refine l_as f rfl rfl fun a f => l_as f rfl rfl fun a f => l_nil (k_seq (k_region ?_))
 refine l_mv f rfl rfl fun a f => ?_
 obtain ⟨aa, ab, hd⟩ := bind_some hd
 refine l_res f rfl rfl Tryd.call45 (Wk.F m h0 ab) fun ac ad ae w af m ag a f => ?_
 obtain ⟨ah, ai, rfl, rfl, aj⟩ := ag
 have h0 := rd1 af h0
 have h1 := rd1 af h1
 refine l_mv f rfl rfl fun a f => l_op f rfl rfl rfl (r_extract (f.eval rfl) rfl) fun a f => l_op f rfl rfl rfl (r_extract (f.eval rfl) rfl) fun a f => l_as f rfl rfl fun a f => l_as f rfl rfl fun a f => l_nil (k_seq (k_region ?_))
 refine l_mv f rfl rfl fun a f => ?_
 obtain ⟨ak, al, hd⟩ := bind_some hd
 refine l_res f rfl rfl Tryd.call45 (Wk.F m h1 al) fun am an ao w ap m aq a f => ?_
 obtain ⟨ar, au, rfl, rfl, av⟩ := aq
 have h0 := rd1 ap h0
 have h1 := rd1 ap h1
 have aj := od1 ap aj
 refine l_mv f rfl rfl fun a f => l_op f rfl rfl rfl (r_extract (f.eval rfl) rfl) fun a f => l_op f rfl rfl rfl (r_extract (f.eval rfl) rfl) fun a f => l_as f rfl rfl fun a f => l_as f rfl rfl fun a f => l_nil (k_seq (k_seq (k_region ?_)))
 refine l_mv f rfl rfl fun a f => l_op f rfl rfl rfl (r_not (f.eval rfl)) fun a f => l_mv f rfl rfl fun a f => ?_
 refine l_cut 3 (fun a w => ∃ aw, GLe an aw ∧ Mem W aw w (au :: ai :: H) ∧ Fr a 74 [(0, v0), (1, v1), (6, ah), (7, (.bool aa.2)), (8, ar), (9, (.bool ak.2)), (23, (.bool aa.2)), (24, (.bool (!aa.2))), (25, (.bool (!aa.2))), (28, (.bool ((!aa.2) || (!ak.2))))]) ?_ ?_
 ·rcases Bool.eq_false_or_eq_true (!aa.2) with ax | ax
  ·refine l_not' f rfl rfl rfl ax fun a f => ?_
   refine l_not' f rfl rfl rfl ax fun a f => l_op f rfl rfl rfl (r_pickT (f.eval rfl) ax (f.eval rfl)) fun a f => ?_
   exact ⟨_, (GLe.refl _), m, f.weak ⟨rfl, rfl, rfl, rfl, rfl, rfl, rfl, rfl, rfl, by rw [ax]; rfl, trivial⟩⟩
  ·refine l_run f rfl rfl ax ?_
   refine l_mv f rfl rfl fun a f => l_run f rfl rfl ax ?_
   refine l_op f rfl rfl rfl (r_not (f.eval rfl)) fun a f => l_op f rfl rfl rfl (r_pickF (f.eval rfl) ax (f.eval rfl)) fun a f => ?_
   exact ⟨_, (GLe.refl _), m, f.weak ⟨rfl, rfl, rfl, rfl, rfl, rfl, rfl, rfl, rfl, by rw [ax]; rfl, trivial⟩⟩
 ·rintro a w ⟨aw, ay, m, f⟩
  have h0 := rd1 ay h0
  have h1 := rd1 ay h1
  have av := od1 ay av
  have aj := od1 ay aj
  refine l_mv f rfl rfl fun a f => ?_
  refine l_cut 6 (fun a w => ∃ az, GLe aw az ∧ Mem W az w (au :: ai :: H) ∧ Fr a 74 [(0, v0), (1, v1), (6, ah), (7, (.bool aa.2)), (8, ar), (9, (.bool ak.2)), (23, (.bool aa.2)), (24, (.bool (!aa.2))), (25, (.bool (!aa.2))), (28, (.bool ((!aa.2) || (!ak.2)))), (29, (.bool ((!aa.2) || (!ak.2)))), (35, (.bool (((!aa.2) || (!ak.2)) || ((x0.length : Int) != (x1.length : Int)))))]) ?_ ?_
  ·rcases Bool.eq_false_or_eq_true ((!aa.2) || (!ak.2)) with aA | aA
   ·refine l_not' f rfl rfl rfl aA fun a f => ?_
    refine l_not' f rfl rfl rfl aA fun a f => l_not' f rfl rfl rfl aA fun a f => l_not' f rfl rfl rfl aA fun a f => l_not' f rfl rfl rfl aA fun a f => l_op f rfl rfl rfl (r_pickT (f.eval rfl) aA (f.eval rfl)) fun a f => ?_
    exact ⟨_, (GLe.refl _), m, f.weak ⟨rfl, rfl, rfl, rfl, rfl, rfl, rfl, rfl, rfl, rfl, rfl, by rw [aA]; rfl, trivial⟩⟩
   ·refine l_run f rfl rfl aA ?_
    refine l_mv f rfl rfl fun a f => l_run f rfl rfl aA ?_
    refine l_len Tryd.underlying28 f rfl rfl h0 fun a f => l_run f rfl rfl aA ?_
    refine l_mv f rfl rfl fun a f => l_run f rfl rfl aA ?_
    refine l_len Tryd.underlying28 f rfl rfl h1 fun a f => l_run f rfl rfl aA ?_
    refine l_in f rfl rfl rfl b_neq fun a f => l_op f rfl rfl rfl (r_pickF (f.eval rfl) aA (f.eval rfl)) fun a f => ?_
    exact ⟨_, (GLe.refl _), m, f.weak ⟨rfl, rfl, rfl, rfl, rfl, rfl, rfl, rfl, rfl, rfl, rfl, by rw [aA]; rfl, trivial⟩⟩
  ·rintro a w ⟨az, aB, m, f⟩
   have h0 := rd1 aB h0
   have h1 := rd1 aB h1
   have av := od1 aB av
   have aj := od1 aB aj
   refine l_nil ?_
   rcases cond_some hd with ⟨aC, hd⟩ | ⟨aC, hd⟩
   ·refine k_true f rfl aC ?_
    refine k_seq (k_region ?_)
    refine l_as f rfl rfl fun a f => l_as f rfl rfl fun a f => l_nil ?_
    refine k_ret ?_
    obtain ⟨aD, m, aE⟩ := Ow.nil (RI .u32) 60 m
    have m := m.eraseAt 2
    have m := m.eraseAt 1
    obtain rfl := sj hd
    exact ⟨[(.slice none 0 0), (.bool false)], ⟨f.get _ _ rfl, f.get _ _ rfl, trivial⟩, f.defers, _, [aD], (GLe.trans af (GLe.trans ap (GLe.trans ay aB))), m, _, _, rfl, rfl, aE⟩
   ·refine k_false f rfl aC ?_
    refine k_skip ?_
    refine k_seq (k_region ?_)
    refine l_mv f rfl rfl fun a f => l_len Tryd.underlying28 f rfl rfl h0 fun a f => ?_
    obtain ⟨aF, aG, hd⟩ := bind_some hd
    refine l_make (R := (RI .u32)) m T56 rfl (by decide) rfl f rfl rfl rfl aG fun aH aI w a m aJ f => l_as f rfl rfl fun a f => l_nil (k_seq (k_seq (k_region ?_)))
    refine l_mv f rfl rfl fun a f => l_own_len 2 m aj rfl Tryd.underlying63 f rfl rfl fun a f => l_mv f rfl rfl fun a f => l_nil ?_
    obtain ⟨aK, aL, hd⟩ := bind_some hd
    refine k_cut (fun a w => ∃ aM : List Int, aM = aK ∧ ∃ (aN : GH) (aO : Itm), GLe az aN ∧ Fr a 74 [(10, aI)] ∧ Mem W aN w (aO :: H) ∧ Ow (RI .u32) 60 aN aO aI aM) ?_ ?_
    ·refine k_block ?_
     have m := m.front 1 rfl
     have m := m.front 2 rfl
     refine k_loop (fun aP a w => ∃ aQ : List Int, ∃ aR : Int, (aQ, aR) = aP ∧ ∃ (aS : GH) (aT : Itm), GLe az aS ∧ Fr a 74 [(6, ah), (8, ar), (10, aI), (40, (.int .i64 (aa.1.length : Int))), (41, (.int .i64 aR))] ∧ Mem W aS w (ai :: au :: aT :: H) ∧ Ow (RI .u32) 60 aS aT aI aQ) aL ⟨_, _, rfl, _, aH, (GLe.refl _), f.weak ⟨rfl, rfl, rfl, rfl, rfl, trivial⟩, m, aJ⟩ ?_
     clear aL f m
     rintro aP aU aV aW a w ⟨aQ, aR, rfl, aS, aT, aX, f, m, aY⟩
     have aj := od1 aX aj
     have av := od1 aX av
     refine k_seq (k_region ?_)
     refine l_in f rfl rfl rfl b_lss fun a f => l_nil (k_seq ?_)
     rcases cond_some aV with ⟨aZ, aV⟩ | ⟨aZ, aV⟩
     ·refine k_true f rfl aZ ?_
      refine k_skip ?_
      refine k_seq (k_block (k_seq (k_region ?_)))
      refine l_mv f rfl rfl fun a f => l_as f rfl rfl fun a f => l_nil (k_seq (k_region ?_))
      refine l_mv f rfl rfl fun a f => l_mv f rfl rfl fun a f => l_nil ?_
      obtain ⟨a0, a1, aV⟩ := bind_some aV
      refine k_cut (fun a w => ∃ a2 : List Int, a2 = a0 ∧ ∃ (a3 : GH) (a4 : Itm), GLe aS a3 ∧ Fr a 74 [(6, ah), (8, ar), (10, aI), (40, (.int .i64 (aa.1.length : Int))), (41, (.int .i64 aR))] ∧ Mem W a3 w (ai :: au :: a4 :: H) ∧ Ow (RI .u32) 60 a3 a4 aI a2) ?_ ?_
      ·refine k_block ?_
       refine k_loop (fun a5 a w => ∃ a6 : List Int, ∃ a7 : Int, (a6, a7) = a5 ∧ ∃ (a8 : GH) (a9 : Itm), GLe aS a8 ∧ Fr a 74 [(6, ah), (8, ar), (10, aI), (11, (.int .i64 aR)), (40, (.int .i64 (aa.1.length : Int))), (41, (.int .i64 aR)), (44, (.int .i64 aR)), (45, (.int .i64 a7))] ∧ Mem W a8 w (ai :: au :: a9 :: H) ∧ Ow (RI .u32) 60 a8 a9 aI a6) a1 ⟨_, _, rfl, _, aT, (GLe.refl _), f.weak ⟨rfl, rfl, rfl, rfl, rfl, rfl, rfl, rfl, trivial⟩, m, aY⟩ ?_
       clear a1 f m
       rintro a5 ba bb bc a w ⟨a6, a7, rfl, a8, a9, bd, f, m, be⟩
       have aj := od1 bd aj
       have av := od1 bd av
       refine k_seq (k_region ?_)
       refine l_in f rfl rfl rfl b_lss fun a f => l_nil (k_seq ?_)
       rcases cond_some bb with ⟨bf, bb⟩ | ⟨bf, bb⟩
       ·refine k_true f rfl bf ?_
        refine k_skip ?_
        refine k_seq (k_block (k_seq (k_region ?_)))
        refine l_mv f rfl rfl fun a f => l_as f rfl rfl fun a f => l_nil (k_seq ?_)
        refine k_draw 19 Follows (by kernel_rfl) m ?_
        refine q_mv 0 19 rfl (by kernel_rfl) f rfl rfl rfl fun a f => q_mv 1 19 rfl (by kernel_rfl) f rfl rfl rfl fun a f => ?_
        obtain ⟨bg, bh, bb⟩ := bind_some bb
        refine q_own_at (i := 2) 19 0 m aj rfl T63 bh rfl (by kernel_rfl) rfl f rfl rfl rfl rfl fun bi a bj f => q_own_load (i := 3) 19 0 aj rfl Pl3 bj bh rfl (by kernel_rfl) rfl f rfl rfl rfl fun bk a bl f => ?_
        subst bl
        refine q_mv 4 19 rfl (by kernel_rfl) f rfl rfl rfl fun a f => q_mv 5 19 rfl (by kernel_rfl) f rfl rfl rfl fun a f => ?_
        obtain ⟨bm, bn, bb⟩ := bind_some bb
        refine q_own_at (i := 6) 19 0 m aj rfl T63 bn rfl (by kernel_rfl) rfl f rfl rfl rfl rfl fun bo a bp f => q_own_load (i := 7) 19 0 aj rfl Pl3 bp bn rfl (by kernel_rfl) rfl f rfl rfl rfl fun bq a br f => ?_
        subst br
        refine q_p 8 19 rfl (by kernel_rfl) f rfl rfl rfl (fun _ => r_int (f.eval rfl) (f.eval rfl) b_lss) fun a f => q_mv 9 19 rfl (by kernel_rfl) f rfl rfl rfl fun a f => q_mv 10 19 rfl (by kernel_rfl) f rfl rfl rfl fun a f => ?_
        obtain ⟨bs, bt, bb⟩ := bind_some bb
        refine q_own_at (i := 11) 19 1 m av rfl T63 bt rfl (by kernel_rfl) rfl f rfl rfl rfl rfl fun bu a bv f => q_own_load (i := 12) 19 1 av rfl Pl3 bv bt rfl (by kernel_rfl) rfl f rfl rfl rfl fun bw a bx f => ?_
        subst bx
        refine q_mv 13 19 rfl (by kernel_rfl) f rfl rfl rfl fun a f => q_mv 14 19 rfl (by kernel_rfl) f rfl rfl rfl fun a f => ?_
        obtain ⟨bz, bA, bb⟩ := bind_some bb
        refine q_own_at (i := 15) 19 1 m av rfl T63 bA rfl (by kernel_rfl) rfl f rfl rfl rfl rfl fun bB a bC f => q_own_load (i := 16) 19 1 av rfl Pl3 bC bA rfl (by kernel_rfl) rfl f rfl rfl rfl fun bD a bE f => ?_
        subst bE
        refine q_p 17 19 rfl (by kernel_rfl) f rfl rfl rfl (fun _ => r_int (f.eval rfl) (f.eval rfl) b_lss) fun a f => q_p 18 19 rfl (by kernel_rfl) f rfl rfl rfl (fun _ => r_bool_neq (f.eval rfl) (f.eval rfl) Tryd.underlying4) fun a f => q_end fun bF w bG m => ?_
        have aj := od1 bG aj
        have av := od1 bG av
        have be := od1 bG be
        refine l_nil ?_
        rcases cond_some bb with ⟨bH, bb⟩ | ⟨bH, bb⟩
        ·refine k_true f rfl bH ?_
         refine k_region ?_
         refine l_mv f rfl rfl fun a f => l_mv f rfl rfl fun a f => l_mv f rfl rfl fun a f => ?_
         have m := m.front 2 rfl
         obtain ⟨bI, bJ, bb⟩ := bind_some bb
         refine l_res f rfl rfl Tryd.call46 (Wk.Y m be bJ) fun bK bL bM w bN m bO a f => ?_
         obtain ⟨bP, rfl, bQ⟩ := bO
         have aj := od1 bN aj
         have av := od1 bN av
         refine l_nil (k_region ?_)
         refine l_in f rfl rfl rfl b_add fun a f => l_mv f rfl rfl fun a f => l_nil ?_
         have m := m.front 2 rfl
         have m := m.front 2 rfl
         obtain rfl := sj bb
         exact ⟨_, rfl, _, _, rfl, _, bP, (GLe.trans bd (GLe.trans bG bN)), f.weak ⟨rfl, rfl, rfl, rfl, rfl, rfl, rfl, rfl, trivial⟩, m, bQ⟩
        ·refine k_false f rfl bH ?_
         refine k_skip ?_
         refine k_region ?_
         refine l_in f rfl rfl rfl b_add fun a f => l_mv f rfl rfl fun a f => l_nil ?_
         obtain rfl := sj bb
         exact ⟨_, rfl, _, _, rfl, _, a9, (GLe.trans bd bG), f.weak ⟨rfl, rfl, rfl, rfl, rfl, rfl, rfl, rfl, trivial⟩, m, be⟩
       ·refine k_false f rfl bf ?_
        refine k_exit rfl ?_
        obtain rfl := sj bb
        obtain rfl := bc _ rfl
        exact ⟨_, rfl, _, a9, bd, f.weak ⟨rfl, rfl, rfl, rfl, rfl, trivial⟩, m, be⟩
      ·rintro a w ⟨a2, rfl, a3, a4, bR, f, m, bS⟩
       have aj := od1 bR aj
       have av := od1 bR av
       refine k_region ?_
       refine l_in f rfl rfl rfl b_add fun a f => l_mv f rfl rfl fun a f => l_nil ?_
       obtain rfl := sj aV
       exact ⟨_, rfl, _, _, rfl, _, a4, (GLe.trans aX bR), f.weak ⟨rfl, rfl, rfl, rfl, rfl, trivial⟩, m, bS⟩
     ·refine k_false f rfl aZ ?_
      refine k_exit rfl ?_
      have m := m.front 2 rfl
      have m := m.eraseAt 2
      have m := m.eraseAt 1
      obtain rfl := sj aV
      obtain rfl := aW _ rfl
      exact ⟨_, rfl, _, aT, aX, f.weak ⟨rfl, trivial⟩, m, aY⟩
    ·rintro a w ⟨aM, rfl, aN, aO, bT, f, m, bU⟩
     refine k_seq (k_region ?_)
     refine l_mv f rfl rfl fun a f => l_as f rfl rfl fun a f => l_as f rfl rfl fun a f => l_nil ?_
     refine k_ret ?_
     obtain rfl := sj hd
     exact ⟨[aI, (.bool true)], ⟨f.get _ _ rfl, f.get _ _ rfl, trivial⟩, f.defers, _, [aO], (GLe.trans af (GLe.trans ap (GLe.trans ay (GLe.trans aB bT)))), m, _, _, rfl, rfl, bU⟩

theorem Wk.T {W w : World} {G : GH} {H : List Itm} {x0 : Int} (hW : TabW W) (m : Mem W G w (H))  {y : Int} (hd : D.T x0 = some y) :
  Calls Tryd.prog 60 #[(.int .u32 x0)] w (Res W G H (fun _ Ho v => Ho = [] ∧ v = (.int .i64 y))) := by
 refine calls_b (args := [(.int .u32 x0)]) (N := 5) [.tmp 2] Tryd.func60 rfl rfl (Nat.le_of_ble_eq_true rfl) rfl fun a f => ?_
 unfold D.T at hd
 refine k_seq (k_region ?_)
 refine l_as f rfl rfl fun a f => l_nil (k_seq (k_region ?_))
 refine l_mv f rfl rfl fun a f => ?_
 obtain ⟨aa, ab, hd⟩ := bind_some hd
 refine l_res f rfl rfl Tryd.call65 (Wk.B0 hW m  ab) fun ac ad ae w af m ag a f => ?_
 obtain ⟨rfl, rfl⟩ := ag
 refine l_as f rfl rfl fun a f => l_nil ?_
 refine k_ret ?_
 obtain rfl := sj hd
 exact ⟨[(.int .i64 aa)], ⟨f.get _ _ rfl, trivial⟩, f.defers, _, [], af, m, rfl, rfl⟩

theorem Wk.l {W w : World} {G : GH} {H : List Itm} {x0 : Int} (hW : TabW W) (m : Mem W G w (H))  {y : ((List Int))} (hd : D.l x0 = some y) :
  Calls Tryd.prog 49 #[(.int .u32 x0)] w (Res W G H (fun G' Ho v => ∃ r0 : Value, ∃ i0 : Itm, Ho = [i0] ∧ r0 = v ∧ Ow (RI .i64) 3 G' i0 r0 y)) := by
 refine calls_b (args := [(.int .u32 x0)]) (N := 17) [.tmp 2] Tryd.func49 rfl rfl (Nat.le_of_ble_eq_true rfl) rfl fun a f => ?_
 unfold D.l at hd
 refine k_seq (k_region ?_)
 refine l_as f rfl rfl fun a f => l_nil (k_seq (k_region ?_))
 refine l_slit (R := (RI .i64)) (xs := ([] : List Int)) (RI.one _) m T63 f rfl rfl rfl (by decide) (All2.nil _) fun aa ab w a m ac f => l_as f rfl rfl fun a f => l_nil (k_seq ?_)
 obtain ⟨ad, ae, hd⟩ := bind_some hd
 refine k_cut (fun a w => ∃ af : List Int, af = ad ∧ ∃ (ag : GH) (ah : Value) (ai : Itm), GLe G ag ∧ Fr a 17 [(3, ah)] ∧ Mem W ag w (ai :: H) ∧ Ow (RI .i64) 3 ag ai ah af) ?_ ?_
 ·refine k_block ?_
  refine k_loop (fun aj a w => ∃ ak : Int, ∃ al : List Int, (ak, al) = aj ∧ ∃ (am : GH) (an : Value) (ao : Itm), GLe G am ∧ Fr a 17 [(0, (.int .u32 ak)), (3, an)] ∧ Mem W am w (ao :: H) ∧ Ow (RI .i64) 3 am ao an al) ae ⟨_, _, rfl, _, ab, aa, (GLe.refl _), f.weak ⟨rfl, rfl, trivial⟩, m, ac⟩ ?_
  clear ae f m
  rintro aj ap aq ar a w ⟨ak, al, rfl, am, an, ao, au, f, m, av⟩
  refine k_seq (k_seq (k_region ?_))
  refine l_mv f rfl rfl fun a f => l_in f rfl rfl rfl b_neq fun a f => l_nil ?_
  rcases cond_some aq with ⟨aw, aq⟩ | ⟨aw, aq⟩
  ·refine k_true f rfl aw ?_
   refine k_skip ?_
   refine k_seq (k_block (k_region ?_))
   refine l_mv f rfl rfl fun a f => l_mv f rfl rfl fun a f => ?_
   obtain ⟨ax, ay, aq⟩ := bind_some aq
   refine l_res f rfl rfl Tryd.call60 (Wk.T hW m  ay) fun az aA aB w aC m aD a f => ?_
   obtain ⟨rfl, rfl⟩ := aD
   have av := od1 aC av
   refine l_slit (R := (RI .i64)) (xs := ([ax] : List Int)) (RI.one _) m T63 f rfl rfl rfl (by decide) (All2.cons rfl (All2.nil _)) fun aE aF w a m aG f => ?_
   obtain ⟨aH, aI, aq⟩ := bind_some aq
   refine l_append (RI.one _) 1 m av rfl T63 rfl (by decide) f rfl rfl rfl (Ow.src (j := 0) aG m rfl) aI fun aJ aK w a m aL f => l_as f rfl rfl fun a f => l_nil (k_region ?_)
   refine l_mv f rfl rfl fun a f => l_mv f rfl rfl fun a f => l_in f rfl rfl rfl b_sub fun a f => l_in f rfl rfl rfl b_and fun a f => l_as f rfl rfl fun a f => l_nil ?_
   have m := m.front 1 rfl
   have m := m.eraseAt 1
   obtain rfl := sj aq
   exact ⟨_, rfl, _, _, rfl, _, aK, aJ, (GLe.trans au aC), f.weak ⟨rfl, rfl, trivial⟩, m, aL⟩
  ·refine k_false f rfl aw ?_
   refine k_exit rfl ?_
   obtain rfl := sj aq
   obtain rfl := ar _ rfl
   exact ⟨_, rfl, _, an, ao, au, f.weak ⟨rfl, trivial⟩, m, av⟩
 ·rintro a w ⟨af, rfl, ag, ah, ai, aM, f, m, aN⟩
  refine k_seq (k_region ?_)
  refine l_mv f rfl rfl fun a f => l_as f rfl rfl fun a f => l_nil ?_
  refine k_ret ?_
  obtain rfl := sj hd
  exact ⟨[ah], ⟨f.get _ _ rfl, trivial⟩, f.defers, _, [ai], aM, m, _, _, rfl, rfl, aN⟩

theorem Wk.I {W w : World} {G : GH} {H : List Itm} {v0 : Value} {v1 : Value} {x0 : (List Int)} {x1 : (List Int)} (m : Mem W G w (H)) (h0 : RSl (RI .i64) G v0 x0) (h1 : RSl (RI .i64) G v1 x1) {y : Bool} (hd : D.I x0 x1 = some y) :
  Calls Tryd.prog 47 #[v0, v1] w (Res W G H (fun _ Ho v => Ho = [] ∧ v = (.bool y))) := by
 refine calls_b (args := [v0, v1]) (N := 19) [.tmp 4] Tryd.func47 rfl rfl (Nat.le_of_ble_eq_true rfl) rfl fun a f => ?_
 unfold D.I at hd
 refine k_seq (k_region ?_)
 refine l_as f rfl rfl fun a f => l_nil (k_seq (k_seq (k_region ?_)))
 refine l_mv f rfl rfl fun a f => l_len Tryd.underlying63 f rfl rfl h0 fun a f => l_mv f rfl rfl fun a f => l_len Tryd.underlying63 f rfl rfl h1 fun a f => l_in f rfl rfl rfl b_neq fun a f => l_nil ?_
 rcases cond_some hd with ⟨aa, hd⟩ | ⟨aa, hd⟩
 ·refine k_true f rfl aa ?_
  refine k_seq (k_region ?_)
  refine l_mv f rfl rfl fun a f => l_len Tryd.underlying63 f rfl rfl h0 fun a f => l_mv f rfl rfl fun a f => l_len Tryd.underlying63 f rfl rfl h1 fun a f => l_in f rfl rfl rfl b_gtr fun a f => l_as f rfl rfl fun a f => l_nil ?_
  refine k_ret ?_
  obtain rfl := sj hd
  exact ⟨[(.bool (decide ((x1.length : Int) < (x0.length : Int))))], ⟨f.get _ _ rfl, trivial⟩, f.defers, _, [], (GLe.refl _), m, rfl, rfl⟩
 ·refine k_false f rfl aa ?_
  refine k_skip ?_
  refine k_seq (k_region ?_)
  refine l_mv f rfl rfl fun a f => l_mv f rfl rfl fun a f => ?_
  obtain ⟨ab, ac, hd⟩ := bind_some hd
  refine l_res f rfl rfl Tryd.call59 (Wk.P m h0 h1 ac) fun ad ae af w ag m ah a f => ?_
  obtain ⟨rfl, rfl⟩ := ah
  have h0 := rd1 ag h0
  have h1 := rd1 ag h1
  refine l_in f rfl rfl rfl b_lss fun a f => l_as f rfl rfl fun a f => l_nil ?_
  refine k_ret ?_
  obtain rfl := sj hd
  exact ⟨[(.bool (decide (ab < 0)))], ⟨f.get _ _ rfl, trivial⟩, f.defers, _, [], ag, m, rfl, rfl⟩

end Go.Proofs.YtebbefpdncgoiaaDoor

/- Cells that are nil, or hold a row. Over any program. -/
namespace Go.Sx
def ROp {α : Type} (R : Rep α) : Rep (Option (List α)) := fun G v o => match o with
  | none => v = .slice none 0 0
  | some l => RSl R G v l ∧ isNil v = false
section
variable {α : Type} {R : Rep α} {G : GH} {v : Value} {o : Option (List α)}
theorem ROp.mono (hR : Mono R) : Mono (ROp R) := by
  intro G G' v o hG h
  cases o with
  | none => exact h
  | some l => exact ⟨RSl.mono hR _ _ _ _ hG h.1, h.2⟩
theorem ROp.one : One (ROp R) := by
  intro G v o h
  cases o with
  | none => obtain rfl : v = .slice none 0 0 := h; exact ⟨rfl, rfl⟩
  | some l => exact RSl.one R _ _ _ h.1
theorem ROp.hdr (h : ROp R G v o) : ∃ a l c, v = .slice a l c := by
  cases o with
  | none => obtain rfl : v = .slice none 0 0 := h; exact ⟨_, _, _, rfl⟩
  | some l => exact h.1.hdr
theorem ROp.nil (h : ROp R G v o) : isNil v = o.isNone := by
  cases o with
  | none => obtain rfl : v = .slice none 0 0 := h; rfl
  | some l => exact h.2
theorem RSl.all_some {xs : List (Option (List α))} {ys : List (List α)} (h : RSl (ROp R) G v xs) (e : xs = ys.map some) : RSl (RSl R) G v ys := by
  subst e
  obtain ⟨vs, hA, h2⟩ := h
  refine ⟨vs, ⟨by rw [hA.1]; simp, fun i c x hc hx => ?_⟩, ?_⟩
  · exact (hA.2 i c (some x) hc (by simp [hx])).1
  · rcases h2 with ⟨h3, h4⟩ | ⟨a, c, h3, h4⟩
    · exact .inl ⟨h3, by simpa using h4⟩
    · exact .inr ⟨a, c, by rw [h3]; simp, by simpa using h4⟩
end
end Go.Sx

/- 'longestLists' and its closure, by hand. -/
set_option maxRecDepth 100000
namespace Go.Proofs.YtebbefpdncgoiaaDoor
open Go Go.Sx
theorem hT65 : SlT Tryd.prog 65 63 1 24 (.slice none 0 0) := ⟨Tryd.underlying65, Tryd.t63, by kernel_rfl, by kernel_rfl, by kernel_rfl, by kernel_rfl⟩
theorem hT63 : SlT Tryd.prog 63 3 1 8 (.int .i64 0) := ⟨Tryd.underlying63, Tryd.t3, by kernel_rfl, by kernel_rfl, by kernel_rfl, by kernel_rfl⟩
theorem hT55 : SlT Tryd.prog 55 60 1 4 (.int .u32 0) := ⟨Tryd.underlying55, Tryd.t60, by kernel_rfl, by kernel_rfl, by kernel_rfl, by kernel_rfl⟩
theorem hP65 : Plain Tryd.prog 65 := Tryd.isAgg65
theorem hP63 : Plain Tryd.prog 63 := Tryd.isAgg63
theorem hP55 : Plain Tryd.prog 55 := Tryd.isAgg55
theorem hP76 : Plain Tryd.prog 76 := Tryd.isAgg76
theorem hP60 : Plain Tryd.prog 60 := Tryd.isAgg60
theorem hP3 : Plain Tryd.prog 3 := Tryd.isAgg3
abbrev ptr (b : Nat) : Value := .pointer (some ⟨b, 0, none⟩)
abbrev fval (b1 b2 b3 : Nat) : Value := .func (.func 48) #[] #[ptr b1, ptr b2, ptr b3]

set_option maxHeartbeats 1000000 in
theorem Wk.J {W : World} (hW : TabW W) {F : List Int} (n : Nat) : ∀ {w : World} {G : GH} {H : List Itm} {b1 b2 b3 : Nat} {vk vf : Value} {itk : Itm} {ks : List (Option (List Int))} {x0 : Int}
    (m : Mem W G w (Itm.box b1 65 [vk] :: Itm.box b2 55 [vf] :: Itm.box b3 76 [fval b1 b2 b3] :: itk :: H)) (hF : RSl (RI .u32) G vf F) (ok : Ow (ROp (RI .i64)) 63 G itk vk ks) {y : List Int × List (Option (List Int))} (hd : D.J F n ks x0 = some y),
    Calls Tryd.prog 48 #[(.int .i64 x0), ptr b1, ptr b2, ptr b3] w (Res W G H (fun G' Ho v => ∃ r0 : Value, ∃ i0 : Itm, Ho = [Itm.box b1 65 [vk], Itm.box b2 55 [vf], Itm.box b3 76 [fval b1 b2 b3], i0] ∧ r0 = v ∧ RSl (RI .i64) G' r0 y.1 ∧ Ow (ROp (RI .i64)) 63 G' i0 vk y.2)) := by
  induction n with
  | zero => intros; rename_i hd; simp [D.J] at hd
  | succ fuel ih =>
    intro w G H b1 b2 b3 vk vf itk ks x0 m hF ok y hd
    refine calls_b (args := [(.int .i64 x0), ptr b1, ptr b2, ptr b3]) (N := 45) [.tmp 5] Tryd.func48 rfl rfl (Nat.le_of_ble_eq_true rfl) rfl (fun a f => ?_)
    unfold D.J at hd
    obtain ⟨o, ho, hd⟩ := bind_some hd
    refine k_seq ?_
    refine k_region ?_
    refine l_op f rfl rfl rfl (r_assign (f.eval rfl)) (fun a f => ?_)
    refine l_nil ?_
    refine k_seq ?_
    refine k_cut (fun a w => ∃ (G' : GH) (i0 : Itm), GLe G G' ∧ Fr a 45 [(0, (.int .i64 x0)), (1, ptr b1)] ∧ Mem W G' w (Itm.box b1 65 [vk] :: Itm.box b2 55 [vf] :: Itm.box b3 76 [fval b1 b2 b3] :: i0 :: H) ∧ Ow (ROp (RI .i64)) 63 G' i0 vk y.2 ∧ idx y.2 x0 = some (some y.1)) ?_ ?_
    · refine k_seq ?_
      refine k_region ?_
      refine l_boxCell 0 0 m hP65 f rfl rfl rfl rfl (fun a f => ?_)
      refine l_op f rfl rfl rfl (r_move (f.eval rfl)) (fun a f => ?_)
      refine l_own_at 3 m ok rfl hT65 f rfl rfl rfl ho (fun p a ha f => ?_)
      refine l_own_load 3 m ok rfl hP63 f rfl rfl ha ho (fun c a hc f => ?_)
      refine l_op f rfl rfl rfl (r_nil_eql (f.eval rfl) (f.eval rfl) hc.hdr Tryd.underlying63 hc.nil) (fun a f => ?_)
      refine l_nil ?_
      cases o with
      | some l =>
        obtain rfl := Option.some.inj hd
        refine k_false f rfl rfl ?_
        refine k_skip ?_
        exact ⟨_, _, GLe.refl _, f.weak ⟨rfl, rfl, trivial⟩, m, ok, ho⟩
      | none =>
        refine k_true f rfl rfl ?_
        obtain ⟨s, hs, hd⟩ := bind_some hd
        obtain ⟨us, hus, hd⟩ := bind_some hd
        obtain ⟨q, hq, hd⟩ := bind_some hd
        refine k_seq ?_
        refine k_region ?_
        refine l_slit (R := (RI .i64)) (xs := ([] : List Int)) (RI.one _) m hT63 f rfl rfl rfl (by decide) (All2.nil _) (fun itb vb w a m ob f => ?_)
        refine l_op f rfl rfl rfl (r_assign (f.eval rfl)) (fun a f => ?_)
        refine l_nil ?_
        obtain ⟨G1, hl1, m, hb⟩ := ob.stamp (RI.mono _) m
        have hF := RSl.mono (RI.mono _) _ _ _ _ hl1 hF
        have ok := Ow.mono (ROp.mono (RI.mono _)) hl1 ok
        refine k_seq ?_
        refine k_seq ?_
        refine k_region ?_
        refine l_boxCell 1 0 m hP55 f rfl rfl rfl rfl (fun a f => ?_)
        refine l_op f rfl rfl rfl (r_move (f.eval rfl)) (fun a f => ?_)
        refine l_at hT55 f rfl rfl rfl hF hs (fun p2 c2 a g2 h2 f => ?_)
        subst h2
        refine l_loadAt m hP60 f rfl rfl g2 (fun a f => ?_)
        refine l_res f rfl rfl Tryd.call49 (Wk.l hW m hus) (fun v2 G2 Ho2 w hl2 m hQ2 a f => ?_)
        obtain ⟨vu, itu, rfl, rfl, ou⟩ := hQ2
        have hF := RSl.mono (RI.mono _) _ _ _ _ hl2 hF
        have ok := Ow.mono (ROp.mono (RI.mono _)) hl2 ok
        have hb := RSl.mono (RI.mono _) _ _ _ _ hl2 hb
        have m : Mem W G2 w (itu :: Itm.box b1 65 [vk] :: Itm.box b2 55 [vf] :: Itm.box b3 76 [fval b1 b2 b3] :: itk :: H) := m
        obtain ⟨G3, hl3, m, hu⟩ := ou.stamp (RI.mono _) m
        have hF := RSl.mono (RI.mono _) _ _ _ _ hl3 hF
        have ok := Ow.mono (ROp.mono (RI.mono _)) hl3 ok
        have hb := RSl.mono (RI.mono _) _ _ _ _ hl3 hb
        refine l_len Tryd.underlying63 f rfl rfl hu (fun a f => ?_)
        refine l_op f rfl rfl rfl (r_move (f.eval rfl)) (fun a f => ?_)
        refine l_nil ?_
        have hle : GLe G G3 := GLe.trans hl1 (GLe.trans hl2 hl3)
        refine k_cut (fun a w => ∃ (G' : GH) (vb' : Value) (i0 : Itm), GLe G3 G' ∧ Fr a 45 [(0, (.int .i64 x0)), (1, ptr b1), (6, vb')] ∧ Mem W G' w (Itm.box b1 65 [vk] :: Itm.box b2 55 [vf] :: Itm.box b3 76 [fval b1 b2 b3] :: i0 :: H) ∧ RSl (RI .i64) G' vb' q.1 ∧ Ow (ROp (RI .i64)) 63 G' i0 vk q.2) ?_ ?_
        · refine k_block ?_
          refine k_loop (fun (s : List Int × List (Option (List Int)) × Int) a w => ∃ (G' : GH) (vb' : Value) (i0 : Itm), GLe G3 G' ∧ Fr a 45 [(0, (.int .i64 x0)), (1, ptr b1), (2, ptr b2), (3, ptr b3), (6, vb'), (20, vu), (21, (.int .i64 (us.length : Int))), (22, (.int .i64 s.2.2))] ∧ Mem W G' w (Itm.box b1 65 [vk] :: Itm.box b2 55 [vf] :: Itm.box b3 76 [fval b1 b2 b3] :: i0 :: H) ∧ RSl (RI .i64) G' vb' s.1 ∧ Ow (ROp (RI .i64)) 63 G' i0 vk s.2.1) hq ⟨_, _, _, GLe.refl _, f.weak ⟨rfl, rfl, rfl, rfl, rfl, rfl, rfl, rfl, trivial⟩, m, hb, ok⟩ ?_
          clear hq f m hb ok
          rintro ⟨best, ks', i⟩ o hs' hqq a w ⟨G4, vb', i0, hl4, f, m, hb, ok⟩
          dsimp only at f hb ok
          have hF := RSl.mono (RI.mono _) _ _ _ _ hl4 hF
          have hu := RSl.mono (RI.mono _) _ _ _ _ hl4 hu
          unfold D.T0 at hs'
          dsimp only at hs'
          refine k_seq ?_
          refine k_region ?_
          refine l_op f rfl rfl rfl (r_int (f.eval rfl) (f.eval rfl) b_lss) (fun a f => ?_)
          refine l_nil ?_
          refine k_seq ?_
          rcases cond_some hs' with ⟨hc1, hs'⟩ | ⟨hc1, hs'⟩
          · refine k_true f rfl hc1 ?_
            refine k_skip ?_
            obtain ⟨u, he, hs'⟩ := bind_some hs'
            obtain ⟨yy, hy, hs'⟩ := bind_some hs'
            obtain ⟨bb, hbb, hs'⟩ := bind_some hs'
            obtain rfl := Option.some.inj hs'
            refine k_seq ?_
            refine k_block ?_
            refine k_seq ?_
            refine k_region ?_
            refine l_at hT63 f rfl rfl rfl hu he (fun p3 c3 a g3 h3 f => ?_)
            subst h3
            refine l_loadAt m hP3 f rfl rfl g3 (fun a f => ?_)
            refine l_op f rfl rfl rfl (r_assign (f.eval rfl)) (fun a f => ?_)
            refine l_nil ?_
            refine k_seq ?_
            refine k_region ?_
            refine l_boxCell 2 0 m hP76 f rfl rfl rfl rfl (fun a f => ?_)
            refine l_op f rfl rfl rfl (r_move (f.eval rfl)) (fun a f => ?_)
            refine l_resv0 (cs := [ptr b1, ptr b2, ptr b3]) f rfl rfl rfl Tryd.call48 (ih m hF ok hy) (fun v5 G5 Ho5 w hl5 m hQ5 a f => ?_)
            obtain ⟨vr, i1, rfl, rfl, hr, ok⟩ := hQ5
            have hF := RSl.mono (RI.mono _) _ _ _ _ hl5 hF
            have hu := RSl.mono (RI.mono _) _ _ _ _ hl5 hu
            have hb := RSl.mono (RI.mono _) _ _ _ _ hl5 hb
            have m : Mem W G5 w (Itm.box b1 65 [vk] :: Itm.box b2 55 [vf] :: Itm.box b3 76 [fval b1 b2 b3] :: i1 :: H) := m
            refine l_op f rfl rfl rfl (r_assign (f.eval rfl)) (fun a f => ?_)
            refine l_nil ?_
            refine k_seq ?_
            refine k_region ?_
            refine l_op f rfl rfl rfl (r_move (f.eval rfl)) (fun a f => ?_)
            refine l_op f rfl rfl rfl (r_move (f.eval rfl)) (fun a f => ?_)
            refine l_res f rfl rfl Tryd.call47 (Wk.I m hr hb hbb) (fun v6 G6 Ho6 w hl6 m hQ6 a f => ?_)
            obtain ⟨rfl, rfl⟩ := hQ6
            have hb := RSl.mono (RI.mono _) _ _ _ _ hl6 hb
            have hr := RSl.mono (RI.mono _) _ _ _ _ hl6 hr
            have ok := Ow.mono (ROp.mono (RI.mono _)) hl6 ok
            have m : Mem W G6 w (Itm.box b1 65 [vk] :: Itm.box b2 55 [vf] :: Itm.box b3 76 [fval b1 b2 b3] :: i1 :: H) := m
            refine l_nil ?_
            have hle6 : GLe G3 G6 := GLe.trans hl4 (GLe.trans hl5 hl6)
            cases bb with
            | true =>
              refine k_true f rfl rfl ?_
              refine k_region ?_
              refine l_op f rfl rfl rfl (r_move (f.eval rfl)) (fun a f => ?_)
              refine l_op f rfl rfl rfl (r_assign (f.eval rfl)) (fun a f => ?_)
              refine l_nil ?_
              refine k_region ?_
              refine l_op f rfl rfl rfl (r_int (f.eval rfl) (f.eval rfl) b_add) (fun a f => ?_)
              refine l_op f rfl rfl rfl (r_move (f.eval rfl)) (fun a f => ?_)
              refine l_nil ?_
              exact ⟨_, rfl, G6, _, _, hle6, f.weak ⟨rfl, rfl, rfl, rfl, rfl, rfl, rfl, rfl, trivial⟩, m, hr, ok⟩
            | false =>
              refine k_false f rfl rfl ?_
              refine k_skip ?_
              refine k_region ?_
              refine l_op f rfl rfl rfl (r_int (f.eval rfl) (f.eval rfl) b_add) (fun a f => ?_)
              refine l_op f rfl rfl rfl (r_move (f.eval rfl)) (fun a f => ?_)
              refine l_nil ?_
              exact ⟨_, rfl, G6, _, _, hle6, f.weak ⟨rfl, rfl, rfl, rfl, rfl, rfl, rfl, rfl, trivial⟩, m, hb, ok⟩
          · refine k_false f rfl hc1 ?_
            refine k_exit rfl ?_
            obtain rfl := Option.some.inj hs'
            obtain rfl := hqq _ rfl
            exact ⟨G4, _, _, hl4, f.weak ⟨rfl, rfl, rfl, trivial⟩, m, hb, ok⟩
        · clear hq f m hb ok
          rintro a w ⟨G4, vb', i0, hl4, f, m, hb, ok⟩
          obtain ⟨l, hx, hd⟩ := bind_some hd
          obtain ⟨e, he, hd⟩ := bind_some hd
          obtain rfl := Option.some.inj hd
          have hl : l = x0 :: q.1 := by
            unfold appendD at hx
            split at hx
            · exact (Option.some.inj hx).symm
            · cases hx
          refine k_draw 6 Follows (by kernel_rfl) m ?_
          refine q_boxCell (i := 0) (listed' := #[true, false, false, false, false, false, false, false]) 6 0 hP65 rfl rfl rfl (by kernel_rfl) rfl f rfl rfl rfl (fun a f => ?_)
          refine q_op (i := 1) (listed' := #[true, true, false, false, false, false, false, false]) 6 rfl (by kernel_rfl) rfl f rfl rfl rfl (fun _ _ _ _ _ => r_move (f.eval rfl)) (fun a f => ?_)
          refine q_op (i := 2) (listed' := #[true, true, true, false, false, false, false, false]) 6 rfl (by kernel_rfl) rfl f rfl rfl rfl (fun _ _ _ _ _ => r_move (f.eval rfl)) (fun a f => ?_)
          refine q_op (i := 4) (listed' := #[true, true, true, false, true, false, false, false]) 6 rfl (by kernel_rfl) rfl f rfl rfl rfl (fun _ _ _ _ _ => r_move (f.eval rfl)) (fun a f => ?_)
          refine q_one (i := 3) (listed' := #[true, true, true, true, true, false, false, false]) rfl (by kernel_rfl) rfl (fun G5 w hl5 m K K => ?_)
          have hb := RSl.mono (RI.mono _) _ _ _ _ hl5 hb
          have ok := Ow.mono (ROp.mono (RI.mono _)) hl5 ok
          have m : Mem W G5 w (Itm.box b1 65 [vk] :: Itm.box b2 55 [vf] :: Itm.box b3 76 [fval b1 b2 b3] :: i0 :: H) := m
          refine l_slit (R := (RI .i64)) (xs := ([x0] : List Int)) (RI.one _) m hT63 f rfl rfl rfl (by decide) (All2.cons rfl (All2.nil _)) (fun it5 v5 w a m o5 f => ?_)
          refine l_nil ?_
          refine K G5 [it5] _ _ (GLe.refl _) m ?_
          refine q_one (i := 5) (listed' := #[true, true, true, true, true, true, false, false]) rfl (by kernel_rfl) rfl (fun G6 w hl6 m K K => ?_)
          have hb := RSl.mono (RI.mono _) _ _ _ _ hl6 hb
          have ok := Ow.mono (ROp.mono (RI.mono _)) hl6 ok
          have o5 := Ow.mono (RI.mono _) hl6 o5
          have m : Mem W G6 w (it5 :: Itm.box b1 65 [vk] :: Itm.box b2 55 [vf] :: Itm.box b3 76 [fval b1 b2 b3] :: i0 :: H) := m
          refine l_append (RI.one _) 0 m o5 rfl hT63 rfl (by decide) f rfl rfl rfl (hb.src m) hx (fun it6 v6 w a m o6 f => ?_)
          have m : Mem W G6 w (it6 :: Itm.box b1 65 [vk] :: Itm.box b2 55 [vf] :: Itm.box b3 76 [fval b1 b2 b3] :: i0 :: H) := m
          refine l_nil ?_
          refine K G6 [it6] _ _ (GLe.refl _) m ?_
          refine q_end (fun G7 w hl7 m => ?_)
          have ok := Ow.mono (ROp.mono (RI.mono _)) hl7 ok
          have o6 := Ow.mono (RI.mono _) hl7 o6
          have m : Mem W G7 w (it6 :: Itm.box b1 65 [vk] :: Itm.box b2 55 [vf] :: Itm.box b3 76 [fval b1 b2 b3] :: i0 :: H) := m
          refine l_own_at 4 m ok rfl hT65 f rfl rfl rfl he (fun p8 a ha8 f => ?_)
          have hnn := o6.notNil 0 m rfl (show nonE l = some () by rw [hl]; rfl)
          have hnn : isNil v6 = false := hnn.trans (by rw [hl]; rfl)
          obtain ⟨G8, hl8, m, hl6'⟩ := o6.stamp (RI.mono _) m
          have ok := Ow.mono (ROp.mono (RI.mono _)) hl8 ok
          refine l_own_store (y' := some l) 3 m ok rfl Tryd.sizeOf63 f rfl rfl ha8 he hl6'.cells hl6'.one1 ⟨hl6', hnn⟩ (fun it9 w m ok => ?_)
          have m : Mem W G8 w (Itm.box b1 65 [vk] :: Itm.box b2 55 [vf] :: Itm.box b3 76 [fval b1 b2 b3] :: it9 :: H) := m
          refine l_nil ?_
          refine ⟨G8, it9, GLe.trans hle (GLe.trans hl4 (GLe.trans hl5 (GLe.trans hl6 (GLe.trans hl7 hl8)))), f.weak ⟨rfl, rfl, trivial⟩, m, ok, ?_⟩
          obtain ⟨g0, g1, _⟩ := idx_some he
          dsimp only
          unfold idx
          rw [if_pos g0]
          exact List.getElem?_set_self (by omega)
    · clear f m ok hF
      rintro a w ⟨G', i0, hle, f, m, ok, hy⟩
      refine k_seq ?_
      refine k_region ?_
      refine l_boxCell 0 0 m hP65 f rfl rfl rfl rfl (fun a f => ?_)
      refine l_op f rfl rfl rfl (r_move (f.eval rfl)) (fun a f => ?_)
      refine l_own_at 3 m ok rfl hT65 f rfl rfl rfl hy (fun p a ha f => ?_)
      refine l_own_load 3 m ok rfl hP63 f rfl rfl ha hy (fun c a hc f => ?_)
      refine l_op f rfl rfl rfl (r_assign (f.eval rfl)) (fun a f => ?_)
      refine l_nil ?_
      refine k_ret ?_
      exact ⟨[c], ⟨f.get _ _ rfl, trivial⟩, f.defers, _, [Itm.box b1 65 [vk], Itm.box b2 55 [vf], Itm.box b3 76 [fval b1 b2 b3], i0], hle, m, _, _, rfl, rfl, hc.1, ok⟩

set_option maxHeartbeats 1000000 in
theorem Wk.t0 {W w : World} {G : GH} {H : List Itm} {v0 : Value} {x0 : List Int} (hW : TabW W) (m : Mem W G w H) (h0 : RSl (RI .u32) G v0 x0) {y : List (List Int)} (hd : D.t0 x0 = some y) :
    Calls Tryd.prog 37 #[v0] w (Res W G H (fun G' Ho v => ∃ r0 : Value, Ho = [] ∧ r0 = v ∧ RSl (RSl (RI .i64)) G' r0 y)) := by
  refine calls_b (args := [v0]) (N := 20) [.tmp 2] Tryd.func37 rfl rfl (Nat.le_of_ble_eq_true rfl) rfl (fun a f => ?_)
  unfold D.t0 at hd
  obtain ⟨ks, hks, hd⟩ := bind_some hd
  obtain ⟨q, hq, hd⟩ := bind_some hd
  refine k_seq ?_
  refine k_region ?_
  refine l_box (cs := [v0]) m f rfl rfl h0.cells (fun b2 w a m f => ?_)
  refine l_op f rfl rfl rfl (r_assign (f.eval rfl)) (fun a f => ?_)
  refine l_nil ?_
  refine k_seq ?_
  refine k_region ?_
  refine l_boxCell 0 0 m hP55 f rfl rfl rfl rfl (fun a f => ?_)
  refine l_len Tryd.underlying55 f rfl rfl h0 (fun a f => ?_)
  refine l_make (R := ROp (RI .i64)) (zz := none) m hT65 rfl (by decide) rfl f rfl rfl rfl hks (fun itk vk w a m ok f => ?_)
  refine l_alloc (cs := [(.slice none 0 0)]) Tryd.zeroValue65 m f rfl rfl (fun b1 w a m f => ?_)
  refine l_boxStore 0 0 (ds := [vk]) m Tryd.sizeOf65 f rfl rfl (Ow.cells 1 m ok rfl) (ones_cons (Ow.one1 1 m ok rfl) ones_nil) rfl (Nat.le_of_ble_eq_true rfl) rfl (fun w m => ?_)
  have m : Mem W G w (Itm.box b1 65 [vk] :: itk :: Itm.box b2 55 [v0] :: H) := m
  refine l_nil ?_
  refine k_seq ?_
  refine k_region ?_
  refine l_alloc (cs := [.nilFunc]) Tryd.zeroValue76 m f rfl rfl (fun b3 w a m f => ?_)
  refine l_nil ?_
  refine k_seq ?_
  refine k_region ?_
  refine l_makeFunc f rfl rfl rfl (fun a f => ?_)
  refine l_boxStore 0 0 (ds := [fval b1 b2 b3]) m Tryd.sizeOf76 f rfl rfl rfl (ones_cons rfl ones_nil) rfl (Nat.le_of_ble_eq_true rfl) rfl (fun w m => ?_)
  have m : Mem W G w (Itm.box b3 76 [fval b1 b2 b3] :: Itm.box b1 65 [vk] :: itk :: Itm.box b2 55 [v0] :: H) := m
  refine l_nil ?_
  have m := m.front 3 rfl
  have m := m.front 2 rfl
  have m : Mem W G w (Itm.box b1 65 [vk] :: Itm.box b2 55 [v0] :: Itm.box b3 76 [fval b1 b2 b3] :: itk :: H) := m
  refine k_seq ?_
  refine k_seq ?_
  refine k_region ?_
  refine l_boxCell 1 0 m hP55 f rfl rfl rfl rfl (fun a f => ?_)
  refine l_len Tryd.underlying55 f rfl rfl h0 (fun a f => ?_)
  refine l_op f rfl rfl rfl (r_move (f.eval rfl)) (fun a f => ?_)
  refine l_nil ?_
  refine k_cut (fun a w => ∃ (G' : GH) (i0 : Itm), GLe G G' ∧ Fr a 20 [(3, ptr b1)] ∧ Mem W G' w (Itm.box b1 65 [vk] :: Itm.box b2 55 [v0] :: Itm.box b3 76 [fval b1 b2 b3] :: i0 :: H) ∧ Ow (ROp (RI .i64)) 63 G' i0 vk q) ?_ ?_
  · refine k_block ?_
    refine k_loop (fun (s : List (Option (List Int)) × Int) a w => ∃ (G' : GH) (i0 : Itm), GLe G G' ∧ Fr a 20 [(3, ptr b1), (4, ptr b3), (11, (.int .i64 (x0.length : Int))), (12, (.int .i64 s.2))] ∧ Mem W G' w (Itm.box b1 65 [vk] :: Itm.box b2 55 [v0] :: Itm.box b3 76 [fval b1 b2 b3] :: i0 :: H) ∧ Ow (ROp (RI .i64)) 63 G' i0 vk s.1) hq ⟨_, _, GLe.refl _, f.weak ⟨rfl, rfl, rfl, rfl, trivial⟩, m, ok⟩ ?_
    clear hq f m ok
    rintro ⟨ks', i⟩ o hs' hqq a w ⟨G4, i0, hl4, f, m, ok⟩
    dsimp only at f ok
    have h0 := RSl.mono (RI.mono _) _ _ _ _ hl4 h0
    unfold D.P0 at hs'
    dsimp only at hs'
    refine k_seq ?_
    refine k_region ?_
    refine l_op f rfl rfl rfl (r_int (f.eval rfl) (f.eval rfl) b_lss) (fun a f => ?_)
    refine l_nil ?_
    refine k_seq ?_
    rcases cond_some hs' with ⟨hc1, hs'⟩ | ⟨hc1, hs'⟩
    · refine k_true f rfl hc1 ?_
      refine k_skip ?_
      obtain ⟨yy, hy, hs'⟩ := bind_some hs'
      obtain rfl := Option.some.inj hs'
      refine k_seq ?_
      refine k_block ?_
      refine k_seq ?_
      refine k_region ?_
      refine l_op f rfl rfl rfl (r_move (f.eval rfl)) (fun a f => ?_)
      refine l_op f rfl rfl rfl (r_assign (f.eval rfl)) (fun a f => ?_)
      refine l_nil ?_
      refine k_region ?_
      refine l_boxCell 2 0 m hP76 f rfl rfl rfl rfl (fun a f => ?_)
      refine l_op f rfl rfl rfl (r_move (f.eval rfl)) (fun a f => ?_)
      refine l_resv0 (cs := [ptr b1, ptr b2, ptr b3]) f rfl rfl rfl Tryd.call48 (Wk.J hW recFuel m h0 ok hy) (fun v5 G5 Ho5 w hl5 m hQ5 a f => ?_)
      obtain ⟨vr, i1, rfl, rfl, hr, ok⟩ := hQ5
      have m : Mem W G5 w (Itm.box b1 65 [vk] :: Itm.box b2 55 [v0] :: Itm.box b3 76 [fval b1 b2 b3] :: i1 :: H) := m
      refine l_nil ?_
      refine k_region ?_
      refine l_op f rfl rfl rfl (r_int (f.eval rfl) (f.eval rfl) b_add) (fun a f => ?_)
      refine l_op f rfl rfl rfl (r_move (f.eval rfl)) (fun a f => ?_)
      refine l_nil ?_
      exact ⟨_, rfl, G5, _, GLe.trans hl4 hl5, f.weak ⟨rfl, rfl, rfl, rfl, trivial⟩, m, ok⟩
    · refine k_false f rfl hc1 ?_
      refine k_exit rfl ?_
      obtain rfl := Option.some.inj hs'
      obtain rfl := hqq _ rfl
      exact ⟨G4, _, hl4, f.weak ⟨rfl, trivial⟩, m, ok⟩
  · clear hq f m ok
    rintro a w ⟨G4, i0, hl4, f, m, ok⟩
    refine k_seq ?_
    refine k_region ?_
    refine l_boxCell 0 0 m hP65 f rfl rfl rfl rfl (fun a f => ?_)
    refine l_op f rfl rfl rfl (r_assign (f.eval rfl)) (fun a f => ?_)
    refine l_nil ?_
    refine k_ret ?_
    have m := m.front 3 rfl
    have m : Mem W G4 w (i0 :: Itm.box b1 65 [vk] :: Itm.box b2 55 [v0] :: Itm.box b3 76 [fval b1 b2 b3] :: H) := m
    obtain ⟨G5, hl5, m, hk⟩ := ok.stamp (ROp.mono (RI.mono _)) m
    have m : Mem W G5 w H := Mem.drop (H' := [Itm.box b1 65 [vk], Itm.box b2 55 [v0], Itm.box b3 76 [fval b1 b2 b3]]) m
    exact ⟨[vk], ⟨f.get _ _ rfl, trivial⟩, f.defers, _, [], GLe.trans hl4 hl5, m, _, rfl, rfl, hk.all_some (unOpt_map hd)⟩
end Go.Proofs.YtebbefpdncgoiaaDoor
