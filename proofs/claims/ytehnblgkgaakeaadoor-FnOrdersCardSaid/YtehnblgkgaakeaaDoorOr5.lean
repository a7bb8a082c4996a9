/- Parts of the proof: ECW, EDW, EEW. -/
import Derived.Test.YtehnblgkgaakeaaDoorOr4
import Derived.Test.YtehnblgkgaakeaaDoorProg
import Derived.KernelRfl
set_option linter.unusedVariables false
set_option linter.unusedSimpArgs false
set_option linter.unusedSectionVars false
set_option maxRecDepth 100000
namespace Go.Proofs.YtehnblgkgaakeaaDoor
open Go Go.Sx
theorem T22 : SlT Tryd.prog 22 5 1 1 (.int .u8 0) := ⟨Tryd.underlying22, Tryd.t5, by kernel_rfl, by kernel_rfl, by kernel_rfl, by kernel_rfl⟩
theorem Pl26 : Plain Tryd.prog 26 := Tryd.isAgg26
theorem Pl22 : Plain Tryd.prog 22 := Tryd.isAgg22

theorem Wk.laws_big {W w : World} {G : GH} {H : List Itm} {v0 : Value} {x0 : (List Int)} (m : Mem W G w (H)) (h0 : RSl (RI .u8) G v0 x0) {y : Bool} (hd : D.laws_big x0 = some y) :
  Calls Tryd.prog 6 #[v0] w (Res W G H (fun _ Ho v => Ho = [] ∧ v = (.bool y))) := by
 refine calls_b (args := [v0]) (N := 6) [.tmp 2] Tryd.func6 rfl rfl (Nat.le_of_ble_eq_true rfl) rfl (fun a f => ?_)
 unfold D.laws_big at hd
 refine k_seq ?_
 refine k_region ?_
 refine l_op f rfl rfl rfl (r_assign (f.eval rfl)) (fun a f => ?_)
 refine l_nil ?_
 refine k_seq ?_
 refine k_region ?_
 refine l_op f rfl rfl rfl (r_move (f.eval rfl)) (fun a f => ?_)
 refine l_len Tryd.underlying22 f rfl rfl h0 (fun a f => ?_)
 refine l_op f rfl rfl rfl (r_int (f.eval rfl) (f.eval rfl) b_gtr) (fun a f => ?_)
 refine l_op f rfl rfl rfl (r_assign (f.eval rfl)) (fun a f => ?_)
 refine l_nil ?_
 refine k_ret ?_
 obtain rfl := Option.some.inj hd
 exact ⟨[(.bool (decide ((4096 : Int) < (x0.length : Int))))], ⟨f.get _ _ rfl, trivial⟩, f.defers, _, [], (GLe.refl _), m, rfl, rfl⟩

theorem Wk.laws_roll {W w : World} {G : GH} {H : List Itm} {v0 : Value} {x0 : (List Int)} {x1 : Int} (m : Mem W G w (H)) (h0 : RSl (RI .u8) G v0 x0) {y : ((List Int)) × Int × Int} (hd : D.laws_roll x0 x1 = some y) :
  Calls Tryd.prog 7 #[v0, (.int .u64 x1)] w (Res W G H (fun G' Ho v => ∃ r0 : Value, ∃ c1 : Nat, Ho = [Itm.box c1 55 [r0, (.int .i64 y.2.1), (.int .u64 y.2.2)]] ∧ v = (.pointer (some ⟨c1, 0, none⟩)) ∧ RSl (RI .u8) G' r0 y.1)) := by
 refine calls_b (args := [v0, (.int .u64 x1)]) (N := 38) [.tmp 4] Tryd.func7 rfl rfl (Nat.le_of_ble_eq_true rfl) rfl (fun a f => ?_)
 unfold D.laws_roll at hd
 refine k_seq ?_
 refine k_region ?_
 refine l_op f rfl rfl rfl (r_assign (f.eval rfl)) (fun a f => ?_)
 refine l_nil ?_
 refine k_seq ?_
 refine k_region ?_
 refine l_op f rfl rfl rfl (r_move (f.eval rfl)) (fun a f => ?_)
 refine l_op f rfl rfl rfl (r_move (f.eval rfl)) (fun a f => ?_)
 refine l_op f rfl rfl rfl (r_int (f.eval rfl) (f.eval rfl) b_mul) (fun a f => ?_)
 refine l_op f rfl rfl rfl (r_move (f.eval rfl)) (fun a f => ?_)
 refine l_len Tryd.underlying22 f rfl rfl h0 (fun a f => ?_)
 refine l_op f rfl rfl rfl (r_conv (f.eval rfl) ⟨_, Tryd.underlying3⟩ Tryd.underlying26) (fun a f => ?_)
 refine l_op f rfl rfl rfl (r_int (f.eval rfl) (f.eval rfl) b_add) (fun a f => ?_)
 have hb_1 : ∀ w, (Instr.build 55 #[(0, v0), (2, (.int .u64 (IntKind.u64.wrap ((IntKind.u64.wrap (x1 * 7919)) + (IntKind.u64.wrap (x0.length : Int))))))]).run Tryd.prog w = .ok (.agg #[v0, (.int .i64 0), (.int .u64 (IntKind.u64.wrap ((IntKind.u64.wrap (x1 * 7919)) + (IntKind.u64.wrap (x0.length : Int)))))]) w := by intro w; simp [Instr.build, Instr.fill, h0.cells, cells_int, cells_bool, cells_string, cells_slice, cells_pointer, cells_agg]
 refine l_build f rfl rfl hb_1 (fun a f => ?_)
 refine l_box (cs := [v0, (.int .i64 0), (.int .u64 (IntKind.u64.wrap ((IntKind.u64.wrap (x1 * 7919)) + (IntKind.u64.wrap (x0.length : Int)))))]) m f rfl rfl rfl (fun b_3 w a m f => ?_)
 refine l_op f rfl rfl rfl (r_assign (f.eval rfl)) (fun a f => ?_)
 refine l_nil ?_
 refine k_seq ?_
 refine k_seq ?_
 refine k_region ?_
 refine l_op f rfl rfl rfl (r_assign (f.eval rfl)) (fun a f => ?_)
 refine l_nil ?_
 obtain ⟨q_25, hl_26, hd⟩ := bind_some hd
 refine k_cut (fun a w => ∃ x_45 : Int, x_45 = q_25 ∧ ∃ (G_44 : GH), GLe G G_44 ∧ Fr a 38 [(5, (.pointer (some ⟨b_3, 0, none⟩)))] ∧ Mem W G_44 w (Itm.box b_3 55 [v0, (.int .i64 0), (.int .u64 x_45)] :: H)) ?_ ?_
 ·refine k_block ?_
  refine k_loop (fun s_29 a w => ∃ x_32 : Int, ∃ x_33 : Int, (x_32, x_33) = s_29 ∧ ∃ (G_31 : GH), GLe G G_31 ∧ Fr a 38 [(0, v0), (5, (.pointer (some ⟨b_3, 0, none⟩))), (6, (.int .i64 x_32))] ∧ Mem W G_31 w (Itm.box b_3 55 [v0, (.int .i64 0), (.int .u64 x_33)] :: H)) hl_26 ⟨_, _, rfl, _, (GLe.refl _), f.weak ⟨rfl, rfl, rfl, trivial⟩, m⟩ ?_
  clear hl_26 f m
  rintro s_29 o_30 hs_27 hq_28 a w ⟨x_32, x_33, rfl, G_31, hl_34, f, m⟩
  have h0 := RSl.mono (RI.mono _) _ _ _ _ hl_34 h0
  refine k_seq ?_
  refine k_seq ?_
  refine k_region ?_
  refine l_op f rfl rfl rfl (r_move (f.eval rfl)) (fun a f => ?_)
  refine l_op f rfl rfl rfl (r_move (f.eval rfl)) (fun a f => ?_)
  refine l_len Tryd.underlying22 f rfl rfl h0 (fun a f => ?_)
  refine l_op f rfl rfl rfl (r_int (f.eval rfl) (f.eval rfl) b_lss) (fun a f => ?_)
  refine l_nil ?_
  rcases cond_some hs_27 with ⟨hc_47, hs_27⟩ | ⟨hc_47, hs_27⟩
  ·refine k_true f rfl hc_47 ?_
   refine k_skip ?_
   refine k_seq ?_
   refine k_block ?_
   refine k_draw 15 Follows (by kernel_rfl) m ?_
   refine q_op (i := 0) (listed' := #[true, false, false, false, false, false, false, false, false, false, false, false, false, false, false, false]) 15 rfl (by kernel_rfl) rfl f rfl rfl rfl (fun _ _ _ _ _ => r_move (f.eval rfl)) (fun a f => ?_)
   refine q_op (i := 1) (listed' := #[true, true, false, false, false, false, false, false, false, false, false, false, false, false, false, false]) 15 rfl (by kernel_rfl) rfl f rfl rfl rfl (fun _ _ _ _ _ => r_move (f.eval rfl)) (fun a f => ?_)
   refine q_op (i := 2) (listed' := #[true, true, true, false, false, false, false, false, false, false, false, false, false, false, false, false]) 15 rfl (by kernel_rfl) rfl f rfl rfl rfl (fun _ _ _ _ _ => r_nilCheck (f.eval rfl)) (fun a f => ?_)
   refine q_fieldAddr (i := 3) (listed' := #[true, true, true, true, false, false, false, false, false, false, false, false, false, false, false, false]) 15 Tryd.underlying55 rfl Tryd.sizeOf26 (by decide) rfl (by kernel_rfl) rfl f rfl rfl rfl (fun a f => ?_)
   refine q_boxCell (i := 4) (listed' := #[true, true, true, true, true, false, false, false, false, false, false, false, false, false, false, false]) 15 0 Pl26 rfl rfl rfl (by kernel_rfl) rfl f rfl rfl rfl (fun a f => ?_)
   refine q_op (i := 5) (listed' := #[true, true, true, true, true, true, false, false, false, false, false, false, false, false, false, false]) 15 rfl (by kernel_rfl) rfl f rfl rfl rfl (fun _ _ _ _ _ => r_int (f.eval rfl) (f.eval rfl) b_mul) (fun a f => ?_)
   refine q_op (i := 6) (listed' := #[true, true, true, true, true, true, true, false, false, false, false, false, false, false, false, false]) 15 rfl (by kernel_rfl) rfl f rfl rfl rfl (fun _ _ _ _ _ => r_move (f.eval rfl)) (fun a f => ?_)
   refine q_op (i := 7) (listed' := #[true, true, true, true, true, true, true, true, false, false, false, false, false, false, false, false]) 15 rfl (by kernel_rfl) rfl f rfl rfl rfl (fun _ _ _ _ _ => r_move (f.eval rfl)) (fun a f => ?_)
   obtain ⟨e_48, he_49, hs_27⟩ := bind_some hs_27
   refine q_at (i := 8) (listed' := #[true, true, true, true, true, true, true, true, true, false, false, false, false, false, false, false]) 15 T22 h0 he_49 rfl (by kernel_rfl) rfl f rfl rfl rfl rfl (fun p_50 c_51 a g_52 h_53 f => ?_)
   subst h_53
   refine q_loadAt (i := 9) (listed' := #[true, true, true, true, true, true, true, true, true, true, false, false, false, false, false, false]) 15 Pl5 g_52 rfl (by kernel_rfl) rfl f rfl rfl rfl (fun a f => ?_)
   refine q_op (i := 10) (listed' := #[true, true, true, true, true, true, true, true, true, true, true, false, false, false, false, false]) 15 rfl (by kernel_rfl) rfl f rfl rfl rfl (fun _ _ _ _ _ => r_conv (f.eval rfl) ⟨_, Tryd.underlying5⟩ Tryd.underlying26) (fun a f => ?_)
   refine q_op (i := 11) (listed' := #[true, true, true, true, true, true, true, true, true, true, true, true, false, false, false, false]) 15 rfl (by kernel_rfl) rfl f rfl rfl rfl (fun _ _ _ _ _ => r_int (f.eval rfl) (f.eval rfl) b_add) (fun a f => ?_)
   refine q_op (i := 12) (listed' := #[true, true, true, true, true, true, true, true, true, true, true, true, true, false, false, false]) 15 rfl (by kernel_rfl) rfl f rfl rfl rfl (fun _ _ _ _ _ => r_int (f.eval rfl) (f.eval rfl) b_add) (fun a f => ?_)
   refine q_op (i := 13) (listed' := #[true, true, true, true, true, true, true, true, true, true, true, true, true, true, false, false]) 15 rfl (by kernel_rfl) rfl f rfl rfl rfl (fun _ _ _ _ _ => r_nilCheck (f.eval rfl)) (fun a f => ?_)
   refine q_fieldAddr (i := 14) (listed' := #[true, true, true, true, true, true, true, true, true, true, true, true, true, true, true, false]) 15 Tryd.underlying55 rfl Tryd.sizeOf26 (by decide) rfl (by kernel_rfl) rfl f rfl rfl rfl (fun a f => ?_)
   refine q_end (fun G_54 w hl_55 m => ?_)
   have h0 := RSl.mono (RI.mono _) _ _ _ _ hl_55 h0
   have g_52 := At.mono hl_55 g_52
   have m : Mem W G_54 w (Itm.box b_3 55 [v0, (.int .i64 0), (.int .u64 x_33)] :: H) := m
   refine l_boxStore 0 2 (ds := [(.int .u64 (IntKind.u64.wrap ((IntKind.u64.wrap ((IntKind.u64.wrap (x_33 * 1099511628211)) + (IntKind.u64.wrap e_48))) + 3)))]) m Tryd.sizeOf26 f rfl rfl rfl (ones_cons rfl ones_nil) rfl (Nat.le_of_ble_eq_true rfl) rfl (fun w m => ?_)
   have m : Mem W G_54 w (Itm.box b_3 55 [v0, (.int .i64 0), (.int .u64 (IntKind.u64.wrap ((IntKind.u64.wrap ((IntKind.u64.wrap (x_33 * 1099511628211)) + (IntKind.u64.wrap e_48))) + 3)))] :: H) := m
   refine l_nil ?_
   refine k_region ?_
   refine l_op f rfl rfl rfl (r_move (f.eval rfl)) (fun a f => ?_)
   refine l_op f rfl rfl rfl (r_int (f.eval rfl) (f.eval rfl) b_add) (fun a f => ?_)
   refine l_op f rfl rfl rfl (r_assign (f.eval rfl)) (fun a f => ?_)
   refine l_nil ?_
   obtain rfl := Option.some.inj hs_27
   exact ⟨_, rfl, _, _, rfl, _, (GLe.trans hl_34 hl_55), f.weak ⟨rfl, rfl, rfl, trivial⟩, m⟩
  ·refine k_false f rfl hc_47 ?_
   refine k_exit rfl ?_
   obtain rfl := Option.some.inj hs_27
   obtain rfl := hq_28 _ rfl
   exact ⟨_, rfl, _, hl_34, f.weak ⟨rfl, trivial⟩, m⟩
 ·rintro a w ⟨x_45, rfl, G_44, hl_46, f, m⟩
  have h0 := RSl.mono (RI.mono _) _ _ _ _ hl_46 h0
  refine k_seq ?_
  refine k_region ?_
  refine l_op f rfl rfl rfl (r_move (f.eval rfl)) (fun a f => ?_)
  refine l_op f rfl rfl rfl (r_assign (f.eval rfl)) (fun a f => ?_)
  refine l_nil ?_
  refine k_ret ?_
  obtain rfl := Option.some.inj hd
  exact ⟨[(.pointer (some ⟨b_3, 0, none⟩))], ⟨f.get _ _ rfl, trivial⟩, f.defers, _, [Itm.box b_3 55 [v0, (.int .i64 0), (.int .u64 x_45)]], hl_46, m, _, _, rfl, rfl, h0⟩

theorem Wk.laws_dice_below {W w : World} {G : GH} {H : List Itm} {v0_0 : Value} {b0 : Nat} {x0_0 : (List Int)} {x0_1 : Int} {x0_2 : Int} {x1 : Int} (m : Mem W G w (Itm.box b0 55 [v0_0, (.int .i64 x0_1), (.int .u64 x0_2)] :: H)) (h0_0 : RSl (RI .u8) G v0_0 x0_0) {y : Int × ((List Int)) × Int × Int} (hd : D.laws_dice_below x0_0 x0_1 x0_2 x1 = some y) :
  Calls Tryd.prog 41 #[(.pointer (some ⟨b0, 0, none⟩)), (.int .i64 x1)] w (Res W G H (fun G' Ho v => ∃ r0 : Value, Ho = [Itm.box b0 55 [r0, (.int .i64 y.2.2.1), (.int .u64 y.2.2.2)]] ∧ v = (.int .i64 y.1) ∧ RSl (RI .u8) G' r0 y.2.1)) := by
 refine calls_b (args := [(.pointer (some ⟨b0, 0, none⟩)), (.int .i64 x1)]) (N := 56) [.tmp 4] Tryd.func41 rfl rfl (Nat.le_of_ble_eq_true rfl) rfl (fun a f => ?_)
 unfold D.laws_dice_below at hd
 refine k_seq ?_
 refine k_region ?_
 refine l_op f rfl rfl rfl (r_assign (f.eval rfl)) (fun a f => ?_)
 refine l_nil ?_
 refine k_seq ?_
 refine k_region ?_
 refine l_op f rfl rfl rfl (r_move (f.eval rfl)) (fun a f => ?_)
 refine l_op f rfl rfl rfl (r_move (f.eval rfl)) (fun a f => ?_)
 refine l_op f rfl rfl rfl (r_nilCheck (f.eval rfl)) (fun a f => ?_)
 refine l_fieldAddr Tryd.underlying55 rfl Tryd.sizeOf26 (by decide) f rfl rfl (fun a f => ?_)
 refine l_boxCell 0 2 m Pl26 f rfl rfl rfl rfl (fun a f => ?_)
 refine l_op f rfl rfl rfl (r_int (f.eval rfl) (f.eval rfl) b_mul) (fun a f => ?_)
 refine l_op f rfl rfl rfl (r_int (f.eval rfl) (f.eval rfl) b_add) (fun a f => ?_)
 refine l_op f rfl rfl rfl (r_nilCheck (f.eval rfl)) (fun a f => ?_)
 refine l_fieldAddr Tryd.underlying55 rfl Tryd.sizeOf26 (by decide) f rfl rfl (fun a f => ?_)
 refine l_boxStore 0 2 (ds := [(.int .u64 (IntKind.u64.wrap ((IntKind.u64.wrap (x0_2 * 6364136223846793005)) + 1442695040888963407)))]) m Tryd.sizeOf26 f rfl rfl rfl (ones_cons rfl ones_nil) rfl (Nat.le_of_ble_eq_true rfl) rfl (fun w m => ?_)
 have m : Mem W G w (Itm.box b0 55 [v0_0, (.int .i64 x0_1), (.int .u64 (IntKind.u64.wrap ((IntKind.u64.wrap (x0_2 * 6364136223846793005)) + 1442695040888963407)))] :: H) := m
 refine l_nil ?_
 refine k_seq ?_
 refine k_region ?_
 refine l_op f rfl rfl rfl (r_move (f.eval rfl)) (fun a f => ?_)
 refine l_op f rfl rfl rfl (r_nilCheck (f.eval rfl)) (fun a f => ?_)
 refine l_fieldAddr Tryd.underlying55 rfl Tryd.sizeOf26 (by decide) f rfl rfl (fun a f => ?_)
 refine l_boxCell 0 2 m Pl26 f rfl rfl rfl rfl (fun a f => ?_)
 refine l_op f rfl rfl rfl (r_shr (f.eval rfl) (f.eval rfl) (by decide)) (fun a f => ?_)
 refine l_op f rfl rfl rfl (r_int (f.eval rfl) (f.eval rfl) b_and) (fun a f => ?_)
 refine l_op f rfl rfl rfl (r_conv (f.eval rfl) ⟨_, Tryd.underlying26⟩ Tryd.underlying2) (fun a f => ?_)
 refine l_op f rfl rfl rfl (r_assign (f.eval rfl)) (fun a f => ?_)
 refine l_nil ?_
 refine k_seq ?_
 refine k_seq ?_
 refine k_draw 10 Follows (by kernel_rfl) m ?_
 refine q_op (i := 0) (listed' := #[true, false, false, false, false, false, false, false, false, false]) 10 rfl (by kernel_rfl) rfl f rfl rfl rfl (fun _ _ _ _ _ => r_move (f.eval rfl)) (fun a f => ?_)
 refine q_op (i := 1) (listed' := #[true, true, false, false, false, false, false, false, false, false]) 10 rfl (by kernel_rfl) rfl f rfl rfl rfl (fun _ _ _ _ _ => r_nilCheck (f.eval rfl)) (fun a f => ?_)
 refine q_fieldAddr (i := 2) (listed' := #[true, true, true, false, false, false, false, false, false, false]) 10 Tryd.underlying55 rfl Tryd.sizeOf3 (by decide) rfl (by kernel_rfl) rfl f rfl rfl rfl (fun a f => ?_)
 refine q_boxCell (i := 3) (listed' := #[true, true, true, true, false, false, false, false, false, false]) 10 0 Pl3 rfl rfl rfl (by kernel_rfl) rfl f rfl rfl rfl (fun a f => ?_)
 refine q_op (i := 4) (listed' := #[true, true, true, true, true, false, false, false, false, false]) 10 rfl (by kernel_rfl) rfl f rfl rfl rfl (fun _ _ _ _ _ => r_move (f.eval rfl)) (fun a f => ?_)
 refine q_op (i := 5) (listed' := #[true, true, true, true, true, true, false, false, false, false]) 10 rfl (by kernel_rfl) rfl f rfl rfl rfl (fun _ _ _ _ _ => r_nilCheck (f.eval rfl)) (fun a f => ?_)
 refine q_fieldAddr (i := 6) (listed' := #[true, true, true, true, true, true, true, false, false, false]) 10 Tryd.underlying55 rfl Tryd.sizeOf22 (by decide) rfl (by kernel_rfl) rfl f rfl rfl rfl (fun a f => ?_)
 refine q_boxCell (i := 7) (listed' := #[true, true, true, true, true, true, true, true, false, false]) 10 0 Pl22 rfl rfl rfl (by kernel_rfl) rfl f rfl rfl rfl (fun a f => ?_)
 refine q_len (i := 8) (listed' := #[true, true, true, true, true, true, true, true, true, false]) 10 Tryd.underlying22 h0_0 rfl (by kernel_rfl) rfl f rfl rfl rfl (fun a f => ?_)
 refine q_op (i := 9) (listed' := #[true, true, true, true, true, true, true, true, true, true]) 10 rfl (by kernel_rfl) rfl f rfl rfl rfl (fun _ _ _ _ _ => r_int (f.eval rfl) (f.eval rfl) b_lss) (fun a f => ?_)
 refine q_end (fun G_2 w hl_3 m => ?_)
 have h0_0 := RSl.mono (RI.mono _) _ _ _ _ hl_3 h0_0
 have m : Mem W G_2 w (Itm.box b0 55 [v0_0, (.int .i64 x0_1), (.int .u64 (IntKind.u64.wrap ((IntKind.u64.wrap (x0_2 * 6364136223846793005)) + 1442695040888963407)))] :: H) := m
 refine l_nil ?_
 rcases cond_some hd with ⟨hc_4, hd⟩ | ⟨hc_4, hd⟩
 ·refine k_true f rfl hc_4 ?_
  refine k_seq ?_
  refine k_draw 14 Follows (by kernel_rfl) m ?_
  refine q_op (i := 0) (listed' := #[true, false, false, false, false, false, false, false, false, false, false, false, false, false]) 14 rfl (by kernel_rfl) rfl f rfl rfl rfl (fun _ _ _ _ _ => r_move (f.eval rfl)) (fun a f => ?_)
  refine q_op (i := 1) (listed' := #[true, true, false, false, false, false, false, false, false, false, false, false, false, false]) 14 rfl (by kernel_rfl) rfl f rfl rfl rfl (fun _ _ _ _ _ => r_move (f.eval rfl)) (fun a f => ?_)
  refine q_op (i := 2) (listed' := #[true, true, true, false, false, false, false, false, false, false, false, false, false, false]) 14 rfl (by kernel_rfl) rfl f rfl rfl rfl (fun _ _ _ _ _ => r_nilCheck (f.eval rfl)) (fun a f => ?_)
  refine q_fieldAddr (i := 3) (listed' := #[true, true, true, true, false, false, false, false, false, false, false, false, false, false]) 14 Tryd.underlying55 rfl Tryd.sizeOf22 (by decide) rfl (by kernel_rfl) rfl f rfl rfl rfl (fun a f => ?_)
  refine q_boxCell (i := 4) (listed' := #[true, true, true, true, true, false, false, false, false, false, false, false, false, false]) 14 0 Pl22 rfl rfl rfl (by kernel_rfl) rfl f rfl rfl rfl (fun a f => ?_)
  refine q_op (i := 5) (listed' := #[true, true, true, true, true, true, false, false, false, false, false, false, false, false]) 14 rfl (by kernel_rfl) rfl f rfl rfl rfl (fun _ _ _ _ _ => r_move (f.eval rfl)) (fun a f => ?_)
  refine q_op (i := 6) (listed' := #[true, true, true, true, true, true, true, false, false, false, false, false, false, false]) 14 rfl (by kernel_rfl) rfl f rfl rfl rfl (fun _ _ _ _ _ => r_nilCheck (f.eval rfl)) (fun a f => ?_)
  refine q_fieldAddr (i := 7) (listed' := #[true, true, true, true, true, true, true, true, false, false, false, false, false, false]) 14 Tryd.underlying55 rfl Tryd.sizeOf3 (by decide) rfl (by kernel_rfl) rfl f rfl rfl rfl (fun a f => ?_)
  refine q_boxCell (i := 8) (listed' := #[true, true, true, true, true, true, true, true, true, false, false, false, false, false]) 14 0 Pl3 rfl rfl rfl (by kernel_rfl) rfl f rfl rfl rfl (fun a f => ?_)
  obtain ⟨e_5, he_6, hd⟩ := bind_some hd
  refine q_at (i := 9) (listed' := #[true, true, true, true, true, true, true, true, true, true, false, false, false, false]) 14 T22 h0_0 he_6 rfl (by kernel_rfl) rfl f rfl rfl rfl rfl (fun p_7 c_8 a g_9 h_10 f => ?_)
  subst h_10
  refine q_loadAt (i := 10) (listed' := #[true, true, true, true, true, true, true, true, true, true, true, false, false, false]) 14 Pl5 g_9 rfl (by kernel_rfl) rfl f rfl rfl rfl (fun a f => ?_)
  refine q_op (i := 11) (listed' := #[true, true, true, true, true, true, true, true, true, true, true, true, false, false]) 14 rfl (by kernel_rfl) rfl f rfl rfl rfl (fun _ _ _ _ _ => r_conv (f.eval rfl) ⟨_, Tryd.underlying5⟩ Tryd.underlying2) (fun a f => ?_)
  refine q_op (i := 12) (listed' := #[true, true, true, true, true, true, true, true, true, true, true, true, true, false]) 14 rfl (by kernel_rfl) rfl f rfl rfl rfl (fun _ _ _ _ _ => r_int (f.eval rfl) (f.eval rfl) b_add) (fun a f => ?_)
  refine q_op (i := 13) (listed' := #[true, true, true, true, true, true, true, true, true, true, true, true, true, true]) 14 rfl (by kernel_rfl) rfl f rfl rfl rfl (fun _ _ _ _ _ => r_assign (f.eval rfl)) (fun a f => ?_)
  refine q_end (fun G_11 w hl_12 m => ?_)
  have h0_0 := RSl.mono (RI.mono _) _ _ _ _ hl_12 h0_0
  have g_9 := At.mono hl_12 g_9
  have m : Mem W G_11 w (Itm.box b0 55 [v0_0, (.int .i64 x0_1), (.int .u64 (IntKind.u64.wrap ((IntKind.u64.wrap (x0_2 * 6364136223846793005)) + 1442695040888963407)))] :: H) := m
  refine l_nil ?_
  refine k_region ?_
  refine l_op f rfl rfl rfl (r_move (f.eval rfl)) (fun a f => ?_)
  refine l_op f rfl rfl rfl (r_move (f.eval rfl)) (fun a f => ?_)
  refine l_op f rfl rfl rfl (r_nilCheck (f.eval rfl)) (fun a f => ?_)
  refine l_fieldAddr Tryd.underlying55 rfl Tryd.sizeOf3 (by decide) f rfl rfl (fun a f => ?_)
  refine l_boxCell 0 1 m Pl3 f rfl rfl rfl rfl (fun a f => ?_)
  refine l_op f rfl rfl rfl (r_int (f.eval rfl) (f.eval rfl) b_add) (fun a f => ?_)
  refine l_op f rfl rfl rfl (r_nilCheck (f.eval rfl)) (fun a f => ?_)
  refine l_fieldAddr Tryd.underlying55 rfl Tryd.sizeOf3 (by decide) f rfl rfl (fun a f => ?_)
  refine l_boxStore 0 1 (ds := [(.int .i64 (IntKind.i64.wrap (x0_1 + 1)))]) m Tryd.sizeOf3 f rfl rfl rfl (ones_cons rfl ones_nil) rfl (Nat.le_of_ble_eq_true rfl) rfl (fun w m => ?_)
  have m : Mem W G_11 w (Itm.box b0 55 [v0_0, (.int .i64 (IntKind.i64.wrap (x0_1 + 1))), (.int .u64 (IntKind.u64.wrap ((IntKind.u64.wrap (x0_2 * 6364136223846793005)) + 1442695040888963407)))] :: H) := m
  refine l_nil ?_
  refine k_seq ?_
  refine k_region ?_
  refine l_op f rfl rfl rfl (r_move (f.eval rfl)) (fun a f => ?_)
  refine l_op f rfl rfl rfl (r_move (f.eval rfl)) (fun a f => ?_)
  obtain ⟨hn_13, hd⟩ := cond_none hd
  refine l_op f rfl rfl rfl (r_int (f.eval rfl) (f.eval rfl) (b_rem hn_13)) (fun a f => ?_)
  refine l_op f rfl rfl rfl (r_assign (f.eval rfl)) (fun a f => ?_)
  refine l_nil ?_
  refine k_ret ?_
  obtain rfl := Option.some.inj hd
  exact ⟨[(.int .i64 (Int.tmod (IntKind.i64.wrap ((IntKind.i64.wrap (iand .u64 (ishr .u64 (IntKind.u64.wrap ((IntKind.u64.wrap (x0_2 * 6364136223846793005)) + 1442695040888963407)) 33) 16777215)) + (IntKind.i64.wrap e_5))) x1))], ⟨f.get _ _ rfl, trivial⟩, f.defers, _, [Itm.box b0 55 [v0_0, (.int .i64 (IntKind.i64.wrap (x0_1 + 1))), (.int .u64 (IntKind.u64.wrap ((IntKind.u64.wrap (x0_2 * 6364136223846793005)) + 1442695040888963407)))]], (GLe.trans hl_3 hl_12), m, _, rfl, rfl, h0_0⟩
 ·refine k_false f rfl hc_4 ?_
  refine k_skip ?_
  refine k_seq ?_
  refine k_region ?_
  refine l_op f rfl rfl rfl (r_move (f.eval rfl)) (fun a f => ?_)
  refine l_op f rfl rfl rfl (r_move (f.eval rfl)) (fun a f => ?_)
  obtain ⟨hn_14, hd⟩ := cond_none hd
  refine l_op f rfl rfl rfl (r_int (f.eval rfl) (f.eval rfl) (b_rem hn_14)) (fun a f => ?_)
  refine l_op f rfl rfl rfl (r_assign (f.eval rfl)) (fun a f => ?_)
  refine l_nil ?_
  refine k_ret ?_
  obtain rfl := Option.some.inj hd
  exact ⟨[(.int .i64 (Int.tmod (IntKind.i64.wrap (iand .u64 (ishr .u64 (IntKind.u64.wrap ((IntKind.u64.wrap (x0_2 * 6364136223846793005)) + 1442695040888963407)) 33) 16777215)) x1))], ⟨f.get _ _ rfl, trivial⟩, f.defers, _, [Itm.box b0 55 [v0_0, (.int .i64 x0_1), (.int .u64 (IntKind.u64.wrap ((IntKind.u64.wrap (x0_2 * 6364136223846793005)) + 1442695040888963407)))]], hl_3, m, _, rfl, rfl, h0_0⟩

theorem Wk.spec_l1Empty {W w : World} {G : GH} {H : List Itm} {x0 : Int} (m : Mem W G w (H))  {y : ((List (List Int)))} (hd : D.spec_l1Empty x0 = some y) :
  Calls Tryd.prog 97 #[(.int .i64 x0)] w (Res W G H (fun G' Ho v => ∃ r0 : Value, ∃ i0 : Itm, Ho = [i0] ∧ v = (.agg #[r0]) ∧ Ow (RSl (RI .i64)) 31 G' i0 r0 y)) := by
 refine calls_b (args := [(.int .i64 x0)]) (N := 18) [.cell 2 29] Tryd.func97 rfl rfl (Nat.le_of_ble_eq_true rfl) rfl (fun a f => ?_)
 unfold D.spec_l1Empty at hd
 refine k_seq ?_
 refine k_region ?_
 refine l_alloc (cs := [(.slice none 0 0)]) Tryd.zeroValue29 m f rfl rfl (fun b_2 w a m f => ?_)
 refine l_nil ?_
 refine k_seq ?_
 refine k_region ?_
 have hb_3 : ∀ w, (Instr.build 29 #[]).run Tryd.prog w = .ok (.agg #[(.slice none 0 0)]) w := by intro w; simp [Instr.build, Instr.fill, cells_int, cells_bool, cells_string, cells_slice, cells_pointer, cells_agg]
 refine l_build f rfl rfl hb_3 (fun a f => ?_)
 refine l_alloc (cs := [(.slice none 0 0)]) Tryd.zeroValue29 m f rfl rfl (fun b_5 w a m f => ?_)
 refine l_boxStore 0 0 (ds := [(.slice none 0 0)]) m Tryd.sizeOf29 f rfl rfl rfl (ones_cons rfl ones_nil) rfl (Nat.le_of_ble_eq_true rfl) rfl (fun w m => ?_)
 have m : Mem W G w (Itm.box b_5 29 [(.slice none 0 0)] :: Itm.box b_2 29 [(.slice none 0 0)] :: H) := m
 refine l_nil ?_
 refine k_seq ?_
 refine k_seq ?_
 refine k_region ?_
 refine l_op f rfl rfl rfl (r_assign (f.eval rfl)) (fun a f => ?_)
 refine l_nil ?_
 obtain ⟨it_58, m, o_59⟩ := Ow.nil (RSl (RI .i64)) 31 m
 obtain ⟨q_52, hl_53, hd⟩ := bind_some hd
 refine k_cut (fun a w => ∃ l_88 : List (List Int), l_88 = q_52 ∧ ∃ (G_87 : GH) (v_89 : Value) (it_90 : Itm), GLe G G_87 ∧ Fr a 18 [(2, (.pointer (some ⟨b_2, 0, none⟩))), (3, (.pointer (some ⟨b_5, 0, none⟩)))] ∧ Mem W G_87 w (Itm.box b_2 29 [(.slice none 0 0)] :: Itm.box b_5 29 [v_89] :: it_90 :: H) ∧ Ow (RSl (RI .i64)) 31 G_87 it_90 v_89 l_88) ?_ ?_
 ·refine k_block ?_
  have m : Mem W G w (Itm.box b_5 29 [(.slice none 0 0)] :: it_58 :: Itm.box b_2 29 [(.slice none 0 0)] :: H) := m.front 1 rfl
  have m : Mem W G w (Itm.box b_2 29 [(.slice none 0 0)] :: Itm.box b_5 29 [(.slice none 0 0)] :: it_58 :: H) := m.front 2 rfl
  refine k_loop (fun s_56 a w => ∃ x_62 : Int, ∃ l_63 : List (List Int), (x_62, l_63) = s_56 ∧ ∃ (G_61 : GH) (v_64 : Value) (it_65 : Itm), GLe G G_61 ∧ Fr a 18 [(0, (.int .i64 x0)), (2, (.pointer (some ⟨b_2, 0, none⟩))), (3, (.pointer (some ⟨b_5, 0, none⟩))), (4, (.int .i64 x_62))] ∧ Mem W G_61 w (Itm.box b_2 29 [(.slice none 0 0)] :: Itm.box b_5 29 [v_64] :: it_65 :: H) ∧ Ow (RSl (RI .i64)) 31 G_61 it_65 v_64 l_63) hl_53 ⟨_, _, rfl, _, (.slice none 0 0), it_58, (GLe.refl _), f.weak ⟨rfl, rfl, rfl, rfl, trivial⟩, m, o_59⟩ ?_
  clear hl_53 f m
  rintro s_56 o_57 hs_54 hq_55 a w ⟨x_62, l_63, rfl, G_61, v_64, it_65, hl_68, f, m, o_66⟩
  refine k_seq ?_
  refine k_seq ?_
  refine k_region ?_
  refine l_op f rfl rfl rfl (r_move (f.eval rfl)) (fun a f => ?_)
  refine l_op f rfl rfl rfl (r_move (f.eval rfl)) (fun a f => ?_)
  refine l_op f rfl rfl rfl (r_int (f.eval rfl) (f.eval rfl) b_lss) (fun a f => ?_)
  refine l_nil ?_
  rcases cond_some hs_54 with ⟨hc_94, hs_54⟩ | ⟨hc_94, hs_54⟩
  ·refine k_true f rfl hc_94 ?_
   refine k_skip ?_
   refine k_seq ?_
   refine k_block ?_
   refine k_region ?_
   refine l_fieldAddr Tryd.underlying29 rfl Tryd.sizeOf27 (by decide) f rfl rfl (fun a f => ?_)
   refine l_boxCell 1 0 m Pl27 f rfl rfl rfl rfl (fun a f => ?_)
   refine l_slit (R := (RI .i64)) (xs := ([] : List Int)) (RI.one _) m T31 f rfl rfl rfl (by decide) (All2.nil _) (fun it_95 v_96 w a m o_97 f => ?_)
   obtain ⟨G_99, hl_100, m, h_101⟩ := Ow.stamp (RI.mono _) o_97 m
   have o_66 := Ow.mono (RSl.mono (RI.mono _)) hl_100 o_66
   have m : Mem W G_99 w (Itm.box b_2 29 [(.slice none 0 0)] :: Itm.box b_5 29 [v_64] :: it_65 :: H) := m
   refine l_slit (R := (RSl (RI .i64))) (xs := ([([] : List Int)] : List (List Int))) (RSl.one _) m T27 f rfl rfl rfl (by decide) (All2.cons h_101 (All2.nil _)) (fun it_102 v_103 w a m o_104 f => ?_)
   obtain ⟨l_106, hx_107, hs_54⟩ := bind_some hs_54
   refine l_append (RSl.one _) 3 m o_66 rfl T27 rfl (by decide) f rfl rfl rfl (Ow.src (j := 0) o_104 m rfl) hx_107 (fun it_108 v_109 w a m o_110 f => ?_)
   have m : Mem W G_99 w (it_102 :: Itm.box b_2 29 [(.slice none 0 0)] :: Itm.box b_5 29 [v_64] :: it_108 :: H) := m
   refine l_fieldAddr Tryd.underlying29 rfl Tryd.sizeOf27 (by decide) f rfl rfl (fun a f => ?_)
   refine l_boxStore 2 0 (ds := [v_109]) m Tryd.sizeOf27 f rfl rfl (Ow.cells 3 m o_110 rfl) (ones_cons (Ow.one1 3 m o_110 rfl) ones_nil) rfl (Nat.le_of_ble_eq_true rfl) rfl (fun w m => ?_)
   have m : Mem W G_99 w (it_102 :: Itm.box b_2 29 [(.slice none 0 0)] :: Itm.box b_5 29 [v_109] :: it_108 :: H) := m
   refine l_nil ?_
   refine k_region ?_
   refine l_op f rfl rfl rfl (r_move (f.eval rfl)) (fun a f => ?_)
   refine l_op f rfl rfl rfl (r_int (f.eval rfl) (f.eval rfl) b_add) (fun a f => ?_)
   refine l_op f rfl rfl rfl (r_assign (f.eval rfl)) (fun a f => ?_)
   refine l_nil ?_
   have m : Mem W G_99 w (it_108 :: it_102 :: Itm.box b_2 29 [(.slice none 0 0)] :: Itm.box b_5 29 [v_109] :: H) := m.front 3 rfl
   have m : Mem W G_99 w (Itm.box b_5 29 [v_109] :: it_108 :: it_102 :: Itm.box b_2 29 [(.slice none 0 0)] :: H) := m.front 3 rfl
   have m : Mem W G_99 w (Itm.box b_2 29 [(.slice none 0 0)] :: Itm.box b_5 29 [v_109] :: it_108 :: it_102 :: H) := m.front 3 rfl
   have m : Mem W G_99 w (Itm.box b_2 29 [(.slice none 0 0)] :: Itm.box b_5 29 [v_109] :: it_108 :: H) := m.eraseAt 3
   obtain rfl := Option.some.inj hs_54
   exact ⟨_, rfl, _, _, rfl, _, v_109, it_108, (GLe.trans hl_68 hl_100), f.weak ⟨rfl, rfl, rfl, rfl, trivial⟩, m, o_110⟩
  ·refine k_false f rfl hc_94 ?_
   refine k_exit rfl ?_
   have m : Mem W G_61 w (it_65 :: Itm.box b_2 29 [(.slice none 0 0)] :: Itm.box b_5 29 [v_64] :: H) := m.front 2 rfl
   have m : Mem W G_61 w (Itm.box b_5 29 [v_64] :: it_65 :: Itm.box b_2 29 [(.slice none 0 0)] :: H) := m.front 2 rfl
   have m : Mem W G_61 w (Itm.box b_2 29 [(.slice none 0 0)] :: Itm.box b_5 29 [v_64] :: it_65 :: H) := m.front 2 rfl
   obtain rfl := Option.some.inj hs_54
   obtain rfl := hq_55 _ rfl
   exact ⟨_, rfl, _, v_64, it_65, hl_68, f.weak ⟨rfl, rfl, trivial⟩, m, o_66⟩
 ·rintro a w ⟨l_88, rfl, G_87, v_89, it_90, hl_93, f, m, o_91⟩
  refine k_seq ?_
  refine k_region ?_
  refine l_boxAgg 1 0 (ds := [v_89]) m Ag29 f rfl rfl rfl rfl rfl (fun a f => ?_)
  refine l_boxStore 0 0 (ds := [v_89]) m Tryd.sizeOf29 f rfl rfl rfl (ones_cons (Ow.one1 2 m o_91 rfl) ones_nil) rfl (Nat.le_of_ble_eq_true rfl) rfl (fun w m => ?_)
  have m : Mem W G_87 w (Itm.box b_2 29 [v_89] :: Itm.box b_5 29 [v_89] :: it_90 :: H) := m
  refine l_nil ?_
  refine k_ret ?_
  have rc_112 := rr_agg (P := Tryd.prog) 0 m Ag29 f (s := 2) rfl rfl rfl
  have m : Mem W G_87 w (it_90 :: Itm.box b_2 29 [v_89] :: Itm.box b_5 29 [v_89] :: H) := m.front 2 rfl
  have m : Mem W G_87 w (it_90 :: Itm.box b_2 29 [v_89] :: H) := m.eraseAt 2
  have m : Mem W G_87 w (it_90 :: H) := m.eraseAt 1
  obtain rfl := Option.some.inj hd
  exact ⟨[(.agg #[v_89])], ⟨rc_112, trivial⟩, f.defers, _, [it_90], hl_93, m, _, _, rfl, rfl, o_91⟩

theorem Wk.spec_l1Link {W w : World} {G : GH} {H : List Itm} {v0_0 : Value} {it0_0 : Itm} {x0_0 : (List (List Int))} {x1 : Int} {x2 : Int} (m : Mem W G w (it0_0 :: H)) (o0_0 : Ow (RSl (RI .i64)) 31 G it0_0 v0_0 x0_0) {y : ((List (List Int)))} (hd : D.spec_l1Link x0_0 x1 x2 = some y) :
  Calls Tryd.prog 99 #[(.agg #[v0_0]), (.int .i64 x1), (.int .i64 x2)] w (Res W G H (fun G' Ho v => ∃ i0 : Itm, Ho = [i0] ∧ v = (.agg #[v0_0]) ∧ Ow (RSl (RI .i64)) 31 G' i0 v0_0 y)) := by
 refine calls_b (args := [(.agg #[v0_0]), (.int .i64 x1), (.int .i64 x2)]) (N := 30) [.cell 6 29] Tryd.func99 rfl rfl (Nat.le_of_ble_eq_true rfl) rfl (fun a f => ?_)
 unfold D.spec_l1Link at hd
 refine k_seq ?_
 refine k_region ?_
 refine l_box (cs := [v0_0]) m f rfl rfl rfl (fun b_2 w a m f => ?_)
 refine l_alloc (cs := [(.slice none 0 0)]) Tryd.zeroValue29 m f rfl rfl (fun b_4 w a m f => ?_)
 refine l_nil ?_
 refine k_seq ?_
 refine k_draw 11 Follows (by kernel_rfl) m ?_
 refine q_fieldAddr (i := 0) (listed' := #[true, false, false, false, false, false, false, false, false, false, false, false]) 11 Tryd.underlying29 rfl Tryd.sizeOf27 (by decide) rfl (by kernel_rfl) rfl f rfl rfl rfl (fun a f => ?_)
 refine q_boxCell (i := 1) (listed' := #[true, true, false, false, false, false, false, false, false, false, false, false]) 11 1 Pl27 rfl rfl rfl (by kernel_rfl) rfl f rfl rfl rfl (fun a f => ?_)
 refine q_op (i := 2) (listed' := #[true, true, true, false, false, false, false, false, false, false, false, false]) 11 rfl (by kernel_rfl) rfl f rfl rfl rfl (fun _ _ _ _ _ => r_move (f.eval rfl)) (fun a f => ?_)
 refine q_fieldAddr (i := 3) (listed' := #[true, true, true, true, false, false, false, false, false, false, false, false]) 11 Tryd.underlying29 rfl Tryd.sizeOf27 (by decide) rfl (by kernel_rfl) rfl f rfl rfl rfl (fun a f => ?_)
 refine q_boxCell (i := 4) (listed' := #[true, true, true, true, true, false, false, false, false, false, false, false]) 11 1 Pl27 rfl rfl rfl (by kernel_rfl) rfl f rfl rfl rfl (fun a f => ?_)
 refine q_op (i := 5) (listed' := #[true, true, true, true, true, true, false, false, false, false, false, false]) 11 rfl (by kernel_rfl) rfl f rfl rfl rfl (fun _ _ _ _ _ => r_move (f.eval rfl)) (fun a f => ?_)
 obtain ⟨e_5, he_6, hd⟩ := bind_some hd
 refine q_own_at (i := 6) (listed' := #[true, true, true, true, true, true, true, false, false, false, false, false]) 11 2 m o0_0 rfl T27 he_6 rfl (by kernel_rfl) rfl f rfl rfl rfl rfl (fun p_7 a ha_8 f => ?_)
 refine q_own_load (i := 7) (listed' := #[true, true, true, true, true, true, true, true, false, false, false, false]) 11 2 o0_0 rfl Pl31 ha_8 he_6 rfl (by kernel_rfl) rfl f rfl rfl rfl (fun c_9 a h_10 f => ?_)
 refine q_op (i := 8) (listed' := #[true, true, true, true, true, true, true, true, true, false, false, false]) 11 rfl (by kernel_rfl) rfl f rfl rfl rfl (fun _ _ _ _ _ => r_move (f.eval rfl)) (fun a f => ?_)
 refine q_one (i := 9) (listed' := #[true, true, true, true, true, true, true, true, true, true, false, false]) rfl (by kernel_rfl) rfl (fun G_11 w hl_12 m K_13 K_13 => ?_)
 have h_10 := RSl.mono (RI.mono _) _ _ _ _ hl_12 h_10
 have o0_0 := Ow.mono (RSl.mono (RI.mono _)) hl_12 o0_0
 have m : Mem W G_11 w (Itm.box b_4 29 [(.slice none 0 0)] :: Itm.box b_2 29 [v0_0] :: it0_0 :: H) := m
 obtain ⟨y_14, hy_15, hd⟩ := bind_some hd
 refine l_res f rfl rfl Tryd.call70 (Wk.spec_l1Into m h_10 hy_15) (fun v_19 G_16 Ho_20 w hl_17 m hQ_18 a f => ?_)
 obtain ⟨v_21, rfl, rfl, h_22⟩ := hQ_18
 have h_10 := RSl.mono (RI.mono _) _ _ _ _ hl_17 h_10
 have o0_0 := Ow.mono (RSl.mono (RI.mono _)) hl_17 o0_0
 have m : Mem W G_16 w (Itm.box b_4 29 [(.slice none 0 0)] :: Itm.box b_2 29 [v0_0] :: it0_0 :: H) := m
 refine l_nil ?_
 refine K_13 G_16 [] _ _ hl_17 m ?_
 obtain ⟨e_23, he_24, hd⟩ := bind_some hd
 refine q_own_at (i := 10) (listed' := #[true, true, true, true, true, true, true, true, true, true, true, false]) 11 2 m o0_0 rfl T27 he_24 rfl (by kernel_rfl) rfl f rfl rfl rfl rfl (fun p_25 a ha_26 f => ?_)
 refine q_end (fun G_27 w hl_28 m => ?_)
 have h_10 := RSl.mono (RI.mono _) _ _ _ _ hl_28 h_10
 have h_22 := RSl.mono (RI.mono _) _ _ _ _ hl_28 h_22
 have o0_0 := Ow.mono (RSl.mono (RI.mono _)) hl_28 o0_0
 have m : Mem W G_27 w (Itm.box b_4 29 [(.slice none 0 0)] :: Itm.box b_2 29 [v0_0] :: it0_0 :: H) := m
 refine l_own_store 2 m o0_0 rfl Tryd.sizeOf31 f rfl rfl ha_26 he_24 h_22.cells h_22.one1 h_22 (fun it_29 w m o_30 => ?_)
 have m : Mem W G_27 w (Itm.box b_4 29 [(.slice none 0 0)] :: Itm.box b_2 29 [v0_0] :: it_29 :: H) := m
 refine l_nil ?_
 refine k_seq ?_
 refine k_draw 11 Follows (by kernel_rfl) m ?_
 refine q_fieldAddr (i := 0) (listed' := #[true, false, false, false, false, false, false, false, false, false, false, false]) 11 Tryd.underlying29 rfl Tryd.sizeOf27 (by decide) rfl (by kernel_rfl) rfl f rfl rfl rfl (fun a f => ?_)
 refine q_boxCell (i := 1) (listed' := #[true, true, false, false, false, false, false, false, false, false, false, false]) 11 1 Pl27 rfl rfl rfl (by kernel_rfl) rfl f rfl rfl rfl (fun a f => ?_)
 refine q_op (i := 2) (listed' := #[true, true, true, false, false, false, false, false, false, false, false, false]) 11 rfl (by kernel_rfl) rfl f rfl rfl rfl (fun _ _ _ _ _ => r_move (f.eval rfl)) (fun a f => ?_)
 refine q_fieldAddr (i := 3) (listed' := #[true, true, true, true, false, false, false, false, false, false, false, false]) 11 Tryd.underlying29 rfl Tryd.sizeOf27 (by decide) rfl (by kernel_rfl) rfl f rfl rfl rfl (fun a f => ?_)
 refine q_boxCell (i := 4) (listed' := #[true, true, true, true, true, false, false, false, false, false, false, false]) 11 1 Pl27 rfl rfl rfl (by kernel_rfl) rfl f rfl rfl rfl (fun a f => ?_)
 refine q_op (i := 5) (listed' := #[true, true, true, true, true, true, false, false, false, false, false, false]) 11 rfl (by kernel_rfl) rfl f rfl rfl rfl (fun _ _ _ _ _ => r_move (f.eval rfl)) (fun a f => ?_)
 obtain ⟨e_31, he_32, hd⟩ := bind_some hd
 refine q_own_at (i := 6) (listed' := #[true, true, true, true, true, true, true, false, false, false, false, false]) 11 2 m o_30 rfl T27 he_32 rfl (by kernel_rfl) rfl f rfl rfl rfl rfl (fun p_33 a ha_34 f => ?_)
 refine q_own_load (i := 7) (listed' := #[true, true, true, true, true, true, true, true, false, false, false, false]) 11 2 o_30 rfl Pl31 ha_34 he_32 rfl (by kernel_rfl) rfl f rfl rfl rfl (fun c_35 a h_36 f => ?_)
 refine q_op (i := 8) (listed' := #[true, true, true, true, true, true, true, true, true, false, false, false]) 11 rfl (by kernel_rfl) rfl f rfl rfl rfl (fun _ _ _ _ _ => r_move (f.eval rfl)) (fun a f => ?_)
 refine q_one (i := 9) (listed' := #[true, true, true, true, true, true, true, true, true, true, false, false]) rfl (by kernel_rfl) rfl (fun G_37 w hl_38 m K_39 K_39 => ?_)
 have h_36 := RSl.mono (RI.mono _) _ _ _ _ hl_38 h_36
 have o_30 := Ow.mono (RSl.mono (RI.mono _)) hl_38 o_30
 have m : Mem W G_37 w (Itm.box b_4 29 [(.slice none 0 0)] :: Itm.box b_2 29 [v0_0] :: it_29 :: H) := m
 obtain ⟨y_40, hy_41, hd⟩ := bind_some hd
 refine l_res f rfl rfl Tryd.call70 (Wk.spec_l1Into m h_36 hy_41) (fun v_45 G_42 Ho_46 w hl_43 m hQ_44 a f => ?_)
 obtain ⟨v_47, rfl, rfl, h_48⟩ := hQ_44
 have h_36 := RSl.mono (RI.mono _) _ _ _ _ hl_43 h_36
 have o_30 := Ow.mono (RSl.mono (RI.mono _)) hl_43 o_30
 have m : Mem W G_42 w (Itm.box b_4 29 [(.slice none 0 0)] :: Itm.box b_2 29 [v0_0] :: it_29 :: H) := m
 refine l_nil ?_
 refine K_39 G_42 [] _ _ hl_43 m ?_
 obtain ⟨e_49, he_50, hd⟩ := bind_some hd
 refine q_own_at (i := 10) (listed' := #[true, true, true, true, true, true, true, true, true, true, true, false]) 11 2 m o_30 rfl T27 he_50 rfl (by kernel_rfl) rfl f rfl rfl rfl rfl (fun p_51 a ha_52 f => ?_)
 refine q_end (fun G_53 w hl_54 m => ?_)
 have h_36 := RSl.mono (RI.mono _) _ _ _ _ hl_54 h_36
 have h_48 := RSl.mono (RI.mono _) _ _ _ _ hl_54 h_48
 have o_30 := Ow.mono (RSl.mono (RI.mono _)) hl_54 o_30
 have m : Mem W G_53 w (Itm.box b_4 29 [(.slice none 0 0)] :: Itm.box b_2 29 [v0_0] :: it_29 :: H) := m
 refine l_own_store 2 m o_30 rfl Tryd.sizeOf31 f rfl rfl ha_52 he_50 h_48.cells h_48.one1 h_48 (fun it_55 w m o_56 => ?_)
 have m : Mem W G_53 w (Itm.box b_4 29 [(.slice none 0 0)] :: Itm.box b_2 29 [v0_0] :: it_55 :: H) := m
 refine l_nil ?_
 refine k_seq ?_
 refine k_region ?_
 refine l_boxAgg 1 0 (ds := [v0_0]) m Ag29 f rfl rfl rfl rfl rfl (fun a f => ?_)
 refine l_boxStore 0 0 (ds := [v0_0]) m Tryd.sizeOf29 f rfl rfl rfl (ones_cons (Ow.one1 2 m o_56 rfl) ones_nil) rfl (Nat.le_of_ble_eq_true rfl) rfl (fun w m => ?_)
 have m : Mem W G_53 w (Itm.box b_4 29 [v0_0] :: Itm.box b_2 29 [v0_0] :: it_55 :: H) := m
 refine l_nil ?_
 refine k_ret ?_
 have rc_57 := rr_agg (P := Tryd.prog) 0 m Ag29 f (s := 6) rfl rfl rfl
 have m : Mem W G_53 w (it_55 :: Itm.box b_4 29 [v0_0] :: Itm.box b_2 29 [v0_0] :: H) := m.front 2 rfl
 have m : Mem W G_53 w (it_55 :: Itm.box b_4 29 [v0_0] :: H) := m.eraseAt 2
 have m : Mem W G_53 w (it_55 :: H) := m.eraseAt 1
 obtain rfl := Option.some.inj hd
 exact ⟨[(.agg #[v0_0])], ⟨rc_57, trivial⟩, f.defers, _, [it_55], (GLe.trans hl_12 (GLe.trans hl_17 (GLe.trans hl_28 (GLe.trans hl_38 (GLe.trans hl_43 hl_54))))), m, _, rfl, rfl, o_56⟩

theorem Wk.spec_GraphOf {W w : World} {G : GH} {H : List Itm} {v1 : Value} {x0 : Int} {x1 : (List (List Int))} (m : Mem W G w (H)) (h1 : RSl (RSl (RI .i64)) G v1 x1) {y : ((List (List Int))) × Bool} (hd : D.spec_GraphOf x0 x1 = some y) :
  Calls Tryd.prog 42 #[(.int .i64 x0), v1] w (Res W G H (fun G' Ho v => ∃ r0 : Value, ∃ i0 : Itm, Ho = [i0] ∧ v = .tuple #[(.agg #[r0]), (.bool y.2)] ∧ Ow (RSl (RI .i64)) 31 G' i0 r0 y.1)) := by
 refine calls_b (args := [(.int .i64 x0), v1]) (N := 56) [.cell 4 29, .tmp 5] Tryd.func42 rfl rfl (Nat.le_of_ble_eq_true rfl) rfl (fun a f => ?_)
 unfold D.spec_GraphOf at hd
 refine k_seq ?_
 refine k_region ?_
 refine l_alloc (cs := [(.slice none 0 0)]) Tryd.zeroValue29 m f rfl rfl (fun b_2 w a m f => ?_)
 refine l_op f rfl rfl rfl (r_assign (f.eval rfl)) (fun a f => ?_)
 refine l_nil ?_
 refine k_seq ?_
 refine k_seq ?_
 refine k_region ?_
 refine l_op f rfl rfl rfl (r_move (f.eval rfl)) (fun a f => ?_)
 obtain ⟨y_3, hy_4, hd⟩ := bind_some hd
 refine l_res f rfl rfl Tryd.call67 (Wk.spec_l1In m  hy_4) (fun v_8 G_5 Ho_9 w hl_6 m hQ_7 a f => ?_)
 obtain ⟨rfl, rfl⟩ := hQ_7
 have h1 := RSl.mono (RSl.mono (RI.mono _)) _ _ _ _ hl_6 h1
 have m : Mem W G_5 w (Itm.box b_2 29 [(.slice none 0 0)] :: H) := m
 refine l_op f rfl rfl rfl (r_not (f.eval rfl)) (fun a f => ?_)
 refine l_op f rfl rfl rfl (r_move (f.eval rfl)) (fun a f => ?_)
 refine l_cut 4 (fun a w => ∃ G_11, GLe G_5 G_11 ∧ Mem W G_11 w (Itm.box b_2 29 [(.slice none 0 0)] :: H) ∧ Fr a 56 [(0, (.int .i64 x0)), (1, v1), (4, (.pointer (some ⟨b_2, 0, none⟩))), (8, (.int .i64 x0)), (9, (.bool y_3)), (10, (.bool (!y_3))), (11, (.bool (!y_3))), (15, (.bool ((!y_3) || (decide ((120 : Int) < (x1.length : Int))))))]) ?_ ?_
 ·rcases Bool.eq_false_or_eq_true (!y_3) with hc_10 | hc_10
  ·refine l_not' f rfl rfl rfl hc_10 (fun a f => ?_)
   refine l_not' f rfl rfl rfl hc_10 (fun a f => ?_)
   refine l_not' f rfl rfl rfl hc_10 (fun a f => ?_)
   refine l_op f rfl rfl rfl (r_pickT (f.eval rfl) hc_10 (f.eval rfl)) (fun a f => ?_)
   exact ⟨_, (GLe.refl _), m, f.weak ⟨rfl, rfl, rfl, rfl, rfl, rfl, rfl, by rw [hc_10]; rfl, trivial⟩⟩
  ·refine l_run f rfl rfl hc_10 ?_
   refine l_op f rfl rfl rfl (r_move (f.eval rfl)) (fun a f => ?_)
   refine l_run f rfl rfl hc_10 ?_
   refine l_len Tryd.underlying27 f rfl rfl h1 (fun a f => ?_)
   refine l_run f rfl rfl hc_10 ?_
   refine l_op f rfl rfl rfl (r_int (f.eval rfl) (f.eval rfl) b_gtr) (fun a f => ?_)
   refine l_op f rfl rfl rfl (r_pickF (f.eval rfl) hc_10 (f.eval rfl)) (fun a f => ?_)
   exact ⟨_, (GLe.refl _), m, f.weak ⟨rfl, rfl, rfl, rfl, rfl, rfl, rfl, by rw [hc_10]; rfl, trivial⟩⟩
 ·rintro a w ⟨G_11, hl_12, m, f⟩
  have h1 := RSl.mono (RSl.mono (RI.mono _)) _ _ _ _ hl_12 h1
  refine l_nil ?_
  rcases cond_some hd with ⟨hc_13, hd⟩ | ⟨hc_13, hd⟩
  ·refine k_true f rfl hc_13 ?_
   refine k_seq ?_
   refine k_region ?_
   have hb_14 : ∀ w, (Instr.build 29 #[]).run Tryd.prog w = .ok (.agg #[(.slice none 0 0)]) w := by intro w; simp [Instr.build, Instr.fill, cells_int, cells_bool, cells_string, cells_slice, cells_pointer, cells_agg]
   refine l_build f rfl rfl hb_14 (fun a f => ?_)
   refine l_boxStore 0 0 (ds := [(.slice none 0 0)]) m Tryd.sizeOf29 f rfl rfl rfl (ones_cons rfl ones_nil) rfl (Nat.le_of_ble_eq_true rfl) rfl (fun w m => ?_)
   have m : Mem W G_11 w (Itm.box b_2 29 [(.slice none 0 0)] :: H) := m
   refine l_op f rfl rfl rfl (r_assign (f.eval rfl)) (fun a f => ?_)
   refine l_nil ?_
   refine k_ret ?_
   obtain ⟨it_15, m, o_16⟩ := Ow.nil (RSl (RI .i64)) 31 m
   have m : Mem W G_11 w (it_15 :: Itm.box b_2 29 [(.slice none 0 0)] :: H) := m
   have rc_18 := rr_agg (P := Tryd.prog) 1 m Ag29 f (s := 4) rfl rfl rfl
   have m : Mem W G_11 w (it_15 :: H) := m.eraseAt 1
   obtain rfl := Option.some.inj hd
   exact ⟨[(.agg #[(.slice none 0 0)]), (.bool false)], ⟨rc_18, f.get _ _ rfl, trivial⟩, f.defers, _, [it_15], (GLe.trans hl_6 hl_12), m, _, _, rfl, rfl, o_16⟩
  ·refine k_false f rfl hc_13 ?_
   refine k_skip ?_
   refine k_seq ?_
   refine k_region ?_
   refine l_op f rfl rfl rfl (r_move (f.eval rfl)) (fun a f => ?_)
   obtain ⟨y_19, hy_20, hd⟩ := bind_some hd
   refine l_res f rfl rfl Tryd.call97 (Wk.spec_l1Empty m  hy_20) (fun v_24 G_21 Ho_25 w hl_22 m hQ_23 a f => ?_)
   obtain ⟨v_26, it_27, rfl, rfl, o_28⟩ := hQ_23
   have h1 := RSl.mono (RSl.mono (RI.mono _)) _ _ _ _ hl_22 h1
   have m : Mem W G_21 w (it_27 :: Itm.box b_2 29 [(.slice none 0 0)] :: H) := m
   refine l_alloc (cs := [(.slice none 0 0)]) Tryd.zeroValue29 m f rfl rfl (fun b_31 w a m f => ?_)
   refine l_boxStore 0 0 (ds := [v_26]) m Tryd.sizeOf29 f rfl rfl rfl (ones_cons (Ow.one1 1 m o_28 rfl) ones_nil) rfl (Nat.le_of_ble_eq_true rfl) rfl (fun w m => ?_)
   have m : Mem W G_21 w (Itm.box b_31 29 [v_26] :: it_27 :: Itm.box b_2 29 [(.slice none 0 0)] :: H) := m
   refine l_nil ?_
   refine k_seq ?_
   refine k_seq ?_
   refine k_region ?_
   refine l_op f rfl rfl rfl (r_assign (f.eval rfl)) (fun a f => ?_)
   refine l_nil ?_
   obtain ⟨q_213, hl_214, hd⟩ := bind_some hd
   refine k_cut (fun a w => ∃ q_213' : (List (List Int)), q_213 = .inl q_213' ∧ ∃ l_314 : List (List Int), l_314 = q_213' ∧ ∃ (G_313 : GH) (it_315 : Itm), GLe G_21 G_313 ∧ Fr a 56 [(4, (.pointer (some ⟨b_2, 0, none⟩))), (6, (.pointer (some ⟨b_31, 0, none⟩)))] ∧ Mem W G_313 w (Itm.box b_2 29 [(.slice none 0 0)] :: Itm.box b_31 29 [v_26] :: it_315 :: H) ∧ Ow (RSl (RI .i64)) 31 G_313 it_315 v_26 l_314) ?_ ?_
   ·refine k_block ?_
    have m : Mem W G_21 w (it_27 :: Itm.box b_31 29 [v_26] :: Itm.box b_2 29 [(.slice none 0 0)] :: H) := m.front 1 rfl
    have m : Mem W G_21 w (Itm.box b_31 29 [v_26] :: it_27 :: Itm.box b_2 29 [(.slice none 0 0)] :: H) := m.front 1 rfl
    have m : Mem W G_21 w (Itm.box b_2 29 [(.slice none 0 0)] :: Itm.box b_31 29 [v_26] :: it_27 :: H) := m.front 2 rfl
    refine k_loop (fun s_217 a w => ∃ x_220 : Int, ∃ l_221 : List (List Int), (x_220, l_221) = s_217 ∧ ∃ (G_219 : GH) (it_222 : Itm), GLe G_21 G_219 ∧ Fr a 56 [(0, (.int .i64 x0)), (1, v1), (4, (.pointer (some ⟨b_2, 0, none⟩))), (6, (.pointer (some ⟨b_31, 0, none⟩))), (7, (.int .i64 x_220))] ∧ Mem W G_219 w (Itm.box b_2 29 [(.slice none 0 0)] :: Itm.box b_31 29 [v_26] :: it_222 :: H) ∧ Ow (RSl (RI .i64)) 31 G_219 it_222 v_26 l_221) hl_214 ⟨_, _, rfl, _, it_27, (GLe.refl _), f.weak ⟨rfl, rfl, rfl, rfl, rfl, trivial⟩, m, o_28⟩ ?_
    clear hl_214 f m
    rintro s_217 o_218 hs_215 hq_216 a w ⟨x_220, l_221, rfl, G_219, it_222, hl_224, f, m, o_223⟩
    have h1 := RSl.mono (RSl.mono (RI.mono _)) _ _ _ _ hl_224 h1
    refine k_seq ?_
    refine k_seq ?_
    refine k_region ?_
    refine l_op f rfl rfl rfl (r_move (f.eval rfl)) (fun a f => ?_)
    refine l_op f rfl rfl rfl (r_move (f.eval rfl)) (fun a f => ?_)
    refine l_len Tryd.underlying27 f rfl rfl h1 (fun a f => ?_)
    refine l_op f rfl rfl rfl (r_int (f.eval rfl) (f.eval rfl) b_lss) (fun a f => ?_)
    refine l_nil ?_
    rcases cond_some hs_215 with ⟨hc_318, hs_215⟩ | ⟨hc_318, hs_215⟩
    ·refine k_true f rfl hc_318 ?_
     refine k_skip ?_
     refine k_seq ?_
     refine k_block ?_
     refine k_seq ?_
     refine k_seq ?_
     refine k_region ?_
     refine l_op f rfl rfl rfl (r_move (f.eval rfl)) (fun a f => ?_)
     refine l_op f rfl rfl rfl (r_move (f.eval rfl)) (fun a f => ?_)
     obtain ⟨e_319, he_320, hs_215⟩ := bind_some hs_215
     refine l_at T27 f rfl rfl rfl h1 he_320 (fun p_321 c_322 a g_323 h_324 f => ?_)
     refine l_loadAt m Pl31 f rfl rfl g_323 (fun a f => ?_)
     refine l_len Tryd.underlying31 f rfl rfl h_324 (fun a f => ?_)
     refine l_op f rfl rfl rfl (r_int (f.eval rfl) (f.eval rfl) b_neq) (fun a f => ?_)
     refine l_op f rfl rfl rfl (r_move (f.eval rfl)) (fun a f => ?_)
     obtain ⟨b_354, hj_355, hs_215⟩ := bind_some hs_215
     refine l_cut 8 (fun a w => ∃ G_352, GLe G_219 G_352 ∧ Mem W G_352 w (Itm.box b_2 29 [(.slice none 0 0)] :: Itm.box b_31 29 [v_26] :: it_222 :: H) ∧ Fr a 56 [(0, (.int .i64 x0)), (1, v1), (4, (.pointer (some ⟨b_2, 0, none⟩))), (6, (.pointer (some ⟨b_31, 0, none⟩))), (7, (.int .i64 x_220)), (22, (.bool (decide (x_220 < (x1.length : Int))))), (25, v1), (26, (.int .i64 x_220)), (27, p_321), (28, c_322), (29, (.int .i64 (e_319.length : Int))), (30, (.bool ((e_319.length : Int) != 2))), (31, (.bool ((e_319.length : Int) != 2))), (39, (.bool b_354))]) ?_ ?_
     ·rcases cond_some hj_355 with ⟨hc_325, hj_355⟩ | ⟨hc_325, hj_355⟩
      ·refine l_not' f rfl rfl rfl hc_325 (fun a f => ?_)
       refine l_not' f rfl rfl rfl hc_325 (fun a f => ?_)
       refine l_not' f rfl rfl rfl hc_325 (fun a f => ?_)
       refine l_not' f rfl rfl rfl hc_325 (fun a f => ?_)
       refine l_not' f rfl rfl rfl hc_325 (fun a f => ?_)
       refine l_not' f rfl rfl rfl hc_325 (fun a f => ?_)
       refine l_not' f rfl rfl rfl hc_325 (fun a f => ?_)
       refine l_op f rfl rfl rfl (r_pickT (f.eval rfl) hc_325 (f.eval rfl)) (fun a f => ?_)
       obtain rfl := Option.some.inj hj_355
       have m : Mem W G_219 w (it_222 :: Itm.box b_2 29 [(.slice none 0 0)] :: Itm.box b_31 29 [v_26] :: H) := m.front 2 rfl
       have m : Mem W G_219 w (Itm.box b_31 29 [v_26] :: it_222 :: Itm.box b_2 29 [(.slice none 0 0)] :: H) := m.front 2 rfl
       have m : Mem W G_219 w (Itm.box b_2 29 [(.slice none 0 0)] :: Itm.box b_31 29 [v_26] :: it_222 :: H) := m.front 2 rfl
       exact ⟨_, (GLe.refl _), m, f.weak ⟨rfl, rfl, rfl, rfl, rfl, rfl, rfl, rfl, rfl, rfl, rfl, rfl, rfl, rfl, trivial⟩⟩
      ·refine l_run f rfl rfl hc_325 ?_
       refine l_op f rfl rfl rfl (r_move (f.eval rfl)) (fun a f => ?_)
       refine l_run f rfl rfl hc_325 ?_
       refine l_op f rfl rfl rfl (r_move (f.eval rfl)) (fun a f => ?_)
       refine l_run f rfl rfl hc_325 ?_
       obtain ⟨e_356, he_357, hj_355⟩ := bind_some hj_355
       refine l_at T27 f rfl rfl rfl h1 he_357 (fun p_358 c_359 a g_360 h_361 f => ?_)
       refine l_run f rfl rfl hc_325 ?_
       refine l_loadAt m Pl31 f rfl rfl g_360 (fun a f => ?_)
       refine l_run f rfl rfl hc_325 ?_
       refine l_op f rfl rfl rfl (r_move (f.eval rfl)) (fun a f => ?_)
       refine l_run f rfl rfl hc_325 ?_
       obtain ⟨y_362, hy_363, hj_355⟩ := bind_some hj_355
       refine l_res f rfl rfl Tryd.call98 (Wk.spec_l1Set m h_361 hy_363) (fun v_367 G_364 Ho_368 w hl_365 m hQ_366 a f => ?_)
       obtain ⟨rfl, rfl⟩ := hQ_366
       have h1 := RSl.mono (RSl.mono (RI.mono _)) _ _ _ _ hl_365 h1
       have g_323 := At.mono hl_365 g_323
       have h_324 := RSl.mono (RI.mono _) _ _ _ _ hl_365 h_324
       have g_360 := At.mono hl_365 g_360
       have h_361 := RSl.mono (RI.mono _) _ _ _ _ hl_365 h_361
       have o_223 := Ow.mono (RSl.mono (RI.mono _)) hl_365 o_223
       have m : Mem W G_364 w (Itm.box b_2 29 [(.slice none 0 0)] :: Itm.box b_31 29 [v_26] :: it_222 :: H) := m
       refine l_run f rfl rfl hc_325 ?_
       refine l_op f rfl rfl rfl (r_not (f.eval rfl)) (fun a f => ?_)
       refine l_op f rfl rfl rfl (r_pickF (f.eval rfl) hc_325 (f.eval rfl)) (fun a f => ?_)
       obtain rfl := Option.some.inj hj_355
       have m : Mem W G_364 w (it_222 :: Itm.box b_2 29 [(.slice none 0 0)] :: Itm.box b_31 29 [v_26] :: H) := m.front 2 rfl
       have m : Mem W G_364 w (Itm.box b_31 29 [v_26] :: it_222 :: Itm.box b_2 29 [(.slice none 0 0)] :: H) := m.front 2 rfl
       have m : Mem W G_364 w (Itm.box b_2 29 [(.slice none 0 0)] :: Itm.box b_31 29 [v_26] :: it_222 :: H) := m.front 2 rfl
       exact ⟨_, hl_365, m, f.weak ⟨rfl, rfl, rfl, rfl, rfl, rfl, rfl, rfl, rfl, rfl, rfl, rfl, rfl, rfl, trivial⟩⟩
     ·rintro a w ⟨G_352, hl_353, m, f⟩
      have h1 := RSl.mono (RSl.mono (RI.mono _)) _ _ _ _ hl_353 h1
      have g_323 := At.mono hl_353 g_323
      have h_324 := RSl.mono (RI.mono _) _ _ _ _ hl_353 h_324
      have o_223 := Ow.mono (RSl.mono (RI.mono _)) hl_353 o_223
      refine l_nil ?_
      rcases cond_some hs_215 with ⟨hc_369, hs_215⟩ | ⟨hc_369, hs_215⟩
      ·refine k_true f rfl hc_369 ?_
       refine k_seq ?_
       refine k_region ?_
       have hb_370 : ∀ w, (Instr.build 29 #[]).run Tryd.prog w = .ok (.agg #[(.slice none 0 0)]) w := by intro w; simp [Instr.build, Instr.fill, cells_int, cells_bool, cells_string, cells_slice, cells_pointer, cells_agg]
       refine l_build f rfl rfl hb_370 (fun a f => ?_)
       refine l_boxStore 0 0 (ds := [(.slice none 0 0)]) m Tryd.sizeOf29 f rfl rfl rfl (ones_cons rfl ones_nil) rfl (Nat.le_of_ble_eq_true rfl) rfl (fun w m => ?_)
       have m : Mem W G_352 w (Itm.box b_2 29 [(.slice none 0 0)] :: Itm.box b_31 29 [v_26] :: it_222 :: H) := m
       refine l_op f rfl rfl rfl (r_assign (f.eval rfl)) (fun a f => ?_)
       refine l_nil ?_
       refine k_ret ?_
       obtain ⟨it_371, m, o_372⟩ := Ow.nil (RSl (RI .i64)) 31 m
       have m : Mem W G_352 w (it_371 :: Itm.box b_2 29 [(.slice none 0 0)] :: Itm.box b_31 29 [v_26] :: it_222 :: H) := m
       have rc_374 := rr_agg (P := Tryd.prog) 1 m Ag29 f (s := 4) rfl rfl rfl
       have m : Mem W G_352 w (it_222 :: it_371 :: Itm.box b_2 29 [(.slice none 0 0)] :: Itm.box b_31 29 [v_26] :: H) := m.front 3 rfl
       have m : Mem W G_352 w (it_371 :: it_222 :: Itm.box b_2 29 [(.slice none 0 0)] :: Itm.box b_31 29 [v_26] :: H) := m.front 1 rfl
       have m : Mem W G_352 w (it_371 :: it_222 :: Itm.box b_2 29 [(.slice none 0 0)] :: H) := m.eraseAt 3
       have m : Mem W G_352 w (it_371 :: it_222 :: H) := m.eraseAt 2
       have m : Mem W G_352 w (it_371 :: H) := m.eraseAt 1
       obtain rfl := Option.some.inj hs_215
       obtain rfl := hq_216 _ rfl
       obtain rfl := Option.some.inj hd
       exact ⟨[(.agg #[(.slice none 0 0)]), (.bool false)], ⟨rc_374, f.get _ _ rfl, trivial⟩, f.defers, _, [it_371], (GLe.trans hl_6 (GLe.trans hl_12 (GLe.trans hl_22 (GLe.trans hl_224 hl_353)))), m, _, _, rfl, rfl, o_372⟩
      ·refine k_false f rfl hc_369 ?_
       refine k_skip ?_
       refine k_draw 13 Follows (by kernel_rfl) m ?_
       refine q_boxAgg (i := 0) (listed' := #[true, false, false, false, false, false, false, false, false, false, false, false, false, false, false]) (ds := [v_26]) 13 1 Ag29 rfl rfl rfl rfl (by kernel_rfl) rfl f rfl rfl rfl (fun a f => ?_)
       refine q_op (i := 1) (listed' := #[true, true, false, false, false, false, false, false, false, false, false, false, false, false, false]) 13 rfl (by kernel_rfl) rfl f rfl rfl rfl (fun _ _ _ _ _ => r_move (f.eval rfl)) (fun a f => ?_)
       refine q_op (i := 2) (listed' := #[true, true, true, false, false, false, false, false, false, false, false, false, false, false, false]) 13 rfl (by kernel_rfl) rfl f rfl rfl rfl (fun _ _ _ _ _ => r_move (f.eval rfl)) (fun a f => ?_)
       obtain ⟨e_375, he_376, hs_215⟩ := bind_some hs_215
       refine q_at (i := 3) (listed' := #[true, true, true, true, false, false, false, false, false, false, false, false, false, false, false]) 13 T27 h1 he_376 rfl (by kernel_rfl) rfl f rfl rfl rfl rfl (fun p_377 c_378 a g_379 h_380 f => ?_)
       refine q_loadAt (i := 4) (listed' := #[true, true, true, true, true, false, false, false, false, false, false, false, false, false, false]) 13 Pl31 g_379 rfl (by kernel_rfl) rfl f rfl rfl rfl (fun a f => ?_)
       obtain ⟨e_381, he_382, hs_215⟩ := bind_some hs_215
       refine q_at (i := 5) (listed' := #[true, true, true, true, true, true, false, false, false, false, false, false, false, false, false]) 13 T31 h_380 he_382 rfl (by kernel_rfl) rfl f rfl rfl rfl rfl (fun p_383 c_384 a g_385 h_386 f => ?_)
       subst h_386
       refine q_loadAt (i := 6) (listed' := #[true, true, true, true, true, true, true, false, false, false, false, false, false, false, false]) 13 Pl2 g_385 rfl (by kernel_rfl) rfl f rfl rfl rfl (fun a f => ?_)
       refine q_op (i := 7) (listed' := #[true, true, true, true, true, true, true, true, false, false, false, false, false, false, false]) 13 rfl (by kernel_rfl) rfl f rfl rfl rfl (fun _ _ _ _ _ => r_move (f.eval rfl)) (fun a f => ?_)
       refine q_op (i := 8) (listed' := #[true, true, true, true, true, true, true, true, true, false, false, false, false, false, false]) 13 rfl (by kernel_rfl) rfl f rfl rfl rfl (fun _ _ _ _ _ => r_move (f.eval rfl)) (fun a f => ?_)
       obtain ⟨e_387, he_388, hs_215⟩ := bind_some hs_215
       refine q_at (i := 9) (listed' := #[true, true, true, true, true, true, true, true, true, true, false, false, false, false, false]) 13 T27 h1 he_388 rfl (by kernel_rfl) rfl f rfl rfl rfl rfl (fun p_389 c_390 a g_391 h_392 f => ?_)
       refine q_loadAt (i := 10) (listed' := #[true, true, true, true, true, true, true, true, true, true, true, false, false, false, false]) 13 Pl31 g_391 rfl (by kernel_rfl) rfl f rfl rfl rfl (fun a f => ?_)
       obtain ⟨e_393, he_394, hs_215⟩ := bind_some hs_215
       refine q_at (i := 11) (listed' := #[true, true, true, true, true, true, true, true, true, true, true, true, false, false, false]) 13 T31 h_392 he_394 rfl (by kernel_rfl) rfl f rfl rfl rfl rfl (fun p_395 c_396 a g_397 h_398 f => ?_)
       subst h_398
       refine q_loadAt (i := 12) (listed' := #[true, true, true, true, true, true, true, true, true, true, true, true, true, false, false]) 13 Pl2 g_397 rfl (by kernel_rfl) rfl f rfl rfl rfl (fun a f => ?_)
       refine q_end (fun G_399 w hl_400 m => ?_)
       have h1 := RSl.mono (RSl.mono (RI.mono _)) _ _ _ _ hl_400 h1
       have g_379 := At.mono hl_400 g_379
       have h_380 := RSl.mono (RI.mono _) _ _ _ _ hl_400 h_380
       have g_385 := At.mono hl_400 g_385
       have g_391 := At.mono hl_400 g_391
       have h_392 := RSl.mono (RI.mono _) _ _ _ _ hl_400 h_392
       have g_397 := At.mono hl_400 g_397
       have o_223 := Ow.mono (RSl.mono (RI.mono _)) hl_400 o_223
       have m : Mem W G_399 w (Itm.box b_2 29 [(.slice none 0 0)] :: Itm.box b_31 29 [v_26] :: it_222 :: H) := m
       have m : Mem W G_399 w (it_222 :: Itm.box b_2 29 [(.slice none 0 0)] :: Itm.box b_31 29 [v_26] :: H) := m.front 2 rfl
       obtain ⟨y_401, hy_402, hs_215⟩ := bind_some hs_215
       refine l_res f rfl rfl Tryd.call99 (Wk.spec_l1Link m o_223 hy_402) (fun v_406 G_403 Ho_407 w hl_404 m hQ_405 a f => ?_)
       obtain ⟨it_408, rfl, rfl, o_409⟩ := hQ_405
       have h1 := RSl.mono (RSl.mono (RI.mono _)) _ _ _ _ hl_404 h1
       have g_379 := At.mono hl_404 g_379
       have h_380 := RSl.mono (RI.mono _) _ _ _ _ hl_404 h_380
       have g_385 := At.mono hl_404 g_385
       have g_391 := At.mono hl_404 g_391
       have h_392 := RSl.mono (RI.mono _) _ _ _ _ hl_404 h_392
       have g_397 := At.mono hl_404 g_397
       have m : Mem W G_403 w (it_408 :: Itm.box b_2 29 [(.slice none 0 0)] :: Itm.box b_31 29 [v_26] :: H) := m
       refine l_boxStore 2 0 (ds := [v_26]) m Tryd.sizeOf29 f rfl rfl rfl (ones_cons (Ow.one1 0 m o_409 rfl) ones_nil) rfl (Nat.le_of_ble_eq_true rfl) rfl (fun w m => ?_)
       have m : Mem W G_403 w (it_408 :: Itm.box b_2 29 [(.slice none 0 0)] :: Itm.box b_31 29 [v_26] :: H) := m
       refine l_nil ?_
       refine k_region ?_
       refine l_op f rfl rfl rfl (r_move (f.eval rfl)) (fun a f => ?_)
       refine l_op f rfl rfl rfl (r_int (f.eval rfl) (f.eval rfl) b_add) (fun a f => ?_)
       refine l_op f rfl rfl rfl (r_assign (f.eval rfl)) (fun a f => ?_)
       refine l_nil ?_
       have m : Mem W G_403 w (Itm.box b_31 29 [v_26] :: it_408 :: Itm.box b_2 29 [(.slice none 0 0)] :: H) := m.front 2 rfl
       have m : Mem W G_403 w (Itm.box b_2 29 [(.slice none 0 0)] :: Itm.box b_31 29 [v_26] :: it_408 :: H) := m.front 2 rfl
       obtain rfl := Option.some.inj hs_215
       exact ⟨_, rfl, _, _, rfl, _, it_408, (GLe.trans hl_224 (GLe.trans hl_353 (GLe.trans hl_400 hl_404))), f.weak ⟨rfl, rfl, rfl, rfl, rfl, trivial⟩, m, o_409⟩
    ·refine k_false f rfl hc_318 ?_
     refine k_exit rfl ?_
     have m : Mem W G_219 w (it_222 :: Itm.box b_2 29 [(.slice none 0 0)] :: Itm.box b_31 29 [v_26] :: H) := m.front 2 rfl
     have m : Mem W G_219 w (Itm.box b_31 29 [v_26] :: it_222 :: Itm.box b_2 29 [(.slice none 0 0)] :: H) := m.front 2 rfl
     have m : Mem W G_219 w (Itm.box b_2 29 [(.slice none 0 0)] :: Itm.box b_31 29 [v_26] :: it_222 :: H) := m.front 2 rfl
     obtain rfl := Option.some.inj hs_215
     obtain rfl := hq_216 _ rfl
     exact ⟨_, rfl, _, rfl, _, it_222, hl_224, f.weak ⟨rfl, rfl, trivial⟩, m, o_223⟩
   ·rintro a w ⟨_, rfl, l_314, rfl, G_313, it_315, hl_317, f, m, o_316⟩
    refine k_seq ?_
    refine k_region ?_
    refine l_boxAgg 1 0 (ds := [v_26]) m Ag29 f rfl rfl rfl rfl rfl (fun a f => ?_)
    refine l_boxStore 0 0 (ds := [v_26]) m Tryd.sizeOf29 f rfl rfl rfl (ones_cons (Ow.one1 2 m o_316 rfl) ones_nil) rfl (Nat.le_of_ble_eq_true rfl) rfl (fun w m => ?_)
    have m : Mem W G_313 w (Itm.box b_2 29 [v_26] :: Itm.box b_31 29 [v_26] :: it_315 :: H) := m
    refine l_op f rfl rfl rfl (r_assign (f.eval rfl)) (fun a f => ?_)
    refine l_nil ?_
    refine k_ret ?_
    have rc_410 := rr_agg (P := Tryd.prog) 0 m Ag29 f (s := 4) rfl rfl rfl
    have m : Mem W G_313 w (it_315 :: Itm.box b_2 29 [v_26] :: Itm.box b_31 29 [v_26] :: H) := m.front 2 rfl
    have m : Mem W G_313 w (it_315 :: Itm.box b_2 29 [v_26] :: H) := m.eraseAt 2
    have m : Mem W G_313 w (it_315 :: H) := m.eraseAt 1
    obtain rfl := Option.some.inj hd
    exact ⟨[(.agg #[v_26]), (.bool true)], ⟨rc_410, f.get _ _ rfl, trivial⟩, f.defers, _, [it_315], (GLe.trans hl_6 (GLe.trans hl_12 (GLe.trans hl_22 hl_317))), m, _, _, rfl, rfl, o_316⟩

theorem Wk.spec_l1Edges {W w : World} {G : GH} {H : List Itm} {v0_0 : Value} {x0_0 : (List (List Int))} (m : Mem W G w (H)) (h0_0 : RSl (RSl (RI .i64)) G v0_0 x0_0) {y : ((List (List Int)))} (hd : D.spec_l1Edges x0_0 = some y) :
  Calls Tryd.prog 94 #[(.agg #[v0_0])] w (Res W G H (fun G' Ho v => ∃ r0 : Value, ∃ i0 : Itm, Ho = [i0] ∧ r0 = v ∧ Ow (RSl (RI .i64)) 31 G' i0 r0 y)) := by
 refine calls_b (args := [(.agg #[v0_0])]) (N := 47) [.tmp 2] Tryd.func94 rfl rfl (Nat.le_of_ble_eq_true rfl) rfl (fun a f => ?_)
 unfold D.spec_l1Edges at hd
 refine k_seq ?_
 refine k_region ?_
 refine l_box (cs := [v0_0]) m f rfl rfl rfl (fun b_2 w a m f => ?_)
 refine l_op f rfl rfl rfl (r_assign (f.eval rfl)) (fun a f => ?_)
 refine l_nil ?_
 refine k_seq ?_
 refine k_region ?_
 refine l_slit (R := (RSl (RI .i64))) (xs := ([] : List (List Int))) (RSl.one _) m T27 f rfl rfl rfl (by decide) (All2.nil _) (fun it_3 v_4 w a m o_5 f => ?_)
 refine l_op f rfl rfl rfl (r_assign (f.eval rfl)) (fun a f => ?_)
 refine l_nil ?_
 refine k_seq ?_
 refine k_seq ?_
 refine k_region ?_
 refine l_op f rfl rfl rfl (r_assign (f.eval rfl)) (fun a f => ?_)
 refine l_nil ?_
 obtain ⟨q_478, hl_479, hd⟩ := bind_some hd
 refine k_cut (fun a w => ∃ l_725 : List (List Int), l_725 = q_478 ∧ ∃ (G_724 : GH) (v_726 : Value) (it_727 : Itm), GLe G G_724 ∧ Fr a 47 [(3, v_726)] ∧ Mem W G_724 w (it_727 :: H) ∧ Ow (RSl (RI .i64)) 31 G_724 it_727 v_726 l_725) ?_ ?_
 ·refine k_block ?_
  have m : Mem W G w (Itm.box b_2 29 [v0_0] :: it_3 :: H) := m.front 1 rfl
  refine k_loop (fun s_482 a w => ∃ l_485 : List (List Int), ∃ x_490 : Int, (l_485, x_490) = s_482 ∧ ∃ (G_484 : GH) (v_486 : Value) (it_487 : Itm), GLe G G_484 ∧ Fr a 47 [(1, (.pointer (some ⟨b_2, 0, none⟩))), (3, v_486), (4, (.int .i64 x_490))] ∧ Mem W G_484 w (Itm.box b_2 29 [v0_0] :: it_487 :: H) ∧ Ow (RSl (RI .i64)) 31 G_484 it_487 v_486 l_485) hl_479 ⟨_, _, rfl, _, v_4, it_3, (GLe.refl _), f.weak ⟨rfl, rfl, rfl, trivial⟩, m, o_5⟩ ?_
  clear hl_479 f m
  rintro s_482 o_483 hs_480 hq_481 a w ⟨l_485, x_490, rfl, G_484, v_486, it_487, hl_491, f, m, o_488⟩
  have h0_0 := RSl.mono (RSl.mono (RI.mono _)) _ _ _ _ hl_491 h0_0
  refine k_seq ?_
  refine k_seq ?_
  refine k_region ?_
  refine l_op f rfl rfl rfl (r_move (f.eval rfl)) (fun a f => ?_)
  refine l_boxAgg 0 0 (ds := [v0_0]) m Ag29 f rfl rfl rfl rfl rfl (fun a f => ?_)
  obtain ⟨y_731, hy_732, hs_480⟩ := bind_some hs_480
  refine l_res f rfl rfl Tryd.call89 (Wk.spec_l1Size m h0_0 hy_732) (fun v_736 G_733 Ho_737 w hl_734 m hQ_735 a f => ?_)
  obtain ⟨rfl, rfl⟩ := hQ_735
  have h0_0 := RSl.mono (RSl.mono (RI.mono _)) _ _ _ _ hl_734 h0_0
  have o_488 := Ow.mono (RSl.mono (RI.mono _)) hl_734 o_488
  have m : Mem W G_733 w (Itm.box b_2 29 [v0_0] :: it_487 :: H) := m
  refine l_op f rfl rfl rfl (r_int (f.eval rfl) (f.eval rfl) b_lss) (fun a f => ?_)
  refine l_nil ?_
  rcases cond_some hs_480 with ⟨hc_738, hs_480⟩ | ⟨hc_738, hs_480⟩
  ·refine k_true f rfl hc_738 ?_
   refine k_skip ?_
   refine k_seq ?_
   refine k_block ?_
   refine k_seq ?_
   refine k_region ?_
   refine l_op f rfl rfl rfl (r_assign (f.eval rfl)) (fun a f => ?_)
   refine l_nil ?_
   obtain ⟨q_844, hl_845, hs_480⟩ := bind_some hs_480
   refine k_cut (fun a w => ∃ l_908 : List (List Int), l_908 = q_844 ∧ ∃ (G_907 : GH) (v_909 : Value) (it_910 : Itm), GLe G_733 G_907 ∧ Fr a 47 [(1, (.pointer (some ⟨b_2, 0, none⟩))), (3, v_909), (4, (.int .i64 x_490))] ∧ Mem W G_907 w (Itm.box b_2 29 [v0_0] :: it_910 :: H) ∧ Ow (RSl (RI .i64)) 31 G_907 it_910 v_909 l_908) ?_ ?_
   ·refine k_block ?_
    have m : Mem W G_733 w (it_487 :: Itm.box b_2 29 [v0_0] :: H) := m.front 1 rfl
    have m : Mem W G_733 w (Itm.box b_2 29 [v0_0] :: it_487 :: H) := m.front 1 rfl
    refine k_loop (fun s_848 a w => ∃ l_851 : List (List Int), ∃ x_856 : Int, (l_851, x_856) = s_848 ∧ ∃ (G_850 : GH) (v_852 : Value) (it_853 : Itm), GLe G_733 G_850 ∧ Fr a 47 [(1, (.pointer (some ⟨b_2, 0, none⟩))), (3, v_852), (4, (.int .i64 x_490)), (5, (.int .i64 x_856))] ∧ Mem W G_850 w (Itm.box b_2 29 [v0_0] :: it_853 :: H) ∧ Ow (RSl (RI .i64)) 31 G_850 it_853 v_852 l_851) hl_845 ⟨_, _, rfl, _, v_486, it_487, (GLe.refl _), f.weak ⟨rfl, rfl, rfl, rfl, trivial⟩, m, o_488⟩ ?_
    clear hl_845 f m
    rintro s_848 o_849 hs_846 hq_847 a w ⟨l_851, x_856, rfl, G_850, v_852, it_853, hl_857, f, m, o_854⟩
    have h0_0 := RSl.mono (RSl.mono (RI.mono _)) _ _ _ _ hl_857 h0_0
    refine k_seq ?_
    refine k_seq ?_
    refine k_region ?_
    refine l_op f rfl rfl rfl (r_move (f.eval rfl)) (fun a f => ?_)
    refine l_fieldAddr Tryd.underlying29 rfl Tryd.sizeOf27 (by decide) f rfl rfl (fun a f => ?_)
    refine l_boxCell 0 0 m Pl27 f rfl rfl rfl rfl (fun a f => ?_)
    refine l_op f rfl rfl rfl (r_move (f.eval rfl)) (fun a f => ?_)
    obtain ⟨e_914, he_915, hs_846⟩ := bind_some hs_846
    refine l_at T27 f rfl rfl rfl h0_0 he_915 (fun p_916 c_917 a g_918 h_919 f => ?_)
    refine l_loadAt m Pl31 f rfl rfl g_918 (fun a f => ?_)
    refine l_len Tryd.underlying31 f rfl rfl h_919 (fun a f => ?_)
    refine l_op f rfl rfl rfl (r_int (f.eval rfl) (f.eval rfl) b_lss) (fun a f => ?_)
    refine l_nil ?_
    rcases cond_some hs_846 with ⟨hc_920, hs_846⟩ | ⟨hc_920, hs_846⟩
    ·refine k_true f rfl hc_920 ?_
     refine k_skip ?_
     refine k_seq ?_
     refine k_block ?_
     refine k_seq ?_
     refine k_region ?_
     refine l_fieldAddr Tryd.underlying29 rfl Tryd.sizeOf27 (by decide) f rfl rfl (fun a f => ?_)
     refine l_boxCell 0 0 m Pl27 f rfl rfl rfl rfl (fun a f => ?_)
     refine l_op f rfl rfl rfl (r_move (f.eval rfl)) (fun a f => ?_)
     obtain ⟨e_921, he_922, hs_846⟩ := bind_some hs_846
     refine l_at T27 f rfl rfl rfl h0_0 he_922 (fun p_923 c_924 a g_925 h_926 f => ?_)
     refine l_loadAt m Pl31 f rfl rfl g_925 (fun a f => ?_)
     refine l_op f rfl rfl rfl (r_move (f.eval rfl)) (fun a f => ?_)
     obtain ⟨e_927, he_928, hs_846⟩ := bind_some hs_846
     refine l_at T31 f rfl rfl rfl h_926 he_928 (fun p_929 c_930 a g_931 h_932 f => ?_)
     subst h_932
     refine l_loadAt m Pl2 f rfl rfl g_931 (fun a f => ?_)
     refine l_op f rfl rfl rfl (r_move (f.eval rfl)) (fun a f => ?_)
     refine l_op f rfl rfl rfl (r_int (f.eval rfl) (f.eval rfl) b_gtr) (fun a f => ?_)
     refine l_nil ?_
     rcases cond_some hs_846 with ⟨hc_933, hs_846⟩ | ⟨hc_933, hs_846⟩
     ·refine k_true f rfl hc_933 ?_
      refine k_region ?_
      refine l_op f rfl rfl rfl (r_move (f.eval rfl)) (fun a f => ?_)
      refine l_op f rfl rfl rfl (r_move (f.eval rfl)) (fun a f => ?_)
      refine l_fieldAddr Tryd.underlying29 rfl Tryd.sizeOf27 (by decide) f rfl rfl (fun a f => ?_)
      refine l_boxCell 0 0 m Pl27 f rfl rfl rfl rfl (fun a f => ?_)
      refine l_op f rfl rfl rfl (r_move (f.eval rfl)) (fun a f => ?_)
      obtain ⟨e_934, he_935, hs_846⟩ := bind_some hs_846
      refine l_at T27 f rfl rfl rfl h0_0 he_935 (fun p_936 c_937 a g_938 h_939 f => ?_)
      refine l_loadAt m Pl31 f rfl rfl g_938 (fun a f => ?_)
      refine l_op f rfl rfl rfl (r_move (f.eval rfl)) (fun a f => ?_)
      obtain ⟨e_940, he_941, hs_846⟩ := bind_some hs_846
      refine l_at T31 f rfl rfl rfl h_939 he_941 (fun p_942 c_943 a g_944 h_945 f => ?_)
      subst h_945
      refine l_loadAt m Pl2 f rfl rfl g_944 (fun a f => ?_)
      refine l_slit (R := (RI .i64)) (xs := ([x_490, e_940] : List Int)) (RI.one _) m T31 f rfl rfl rfl (by decide) (All2.cons rfl (All2.cons rfl (All2.nil _))) (fun it_946 v_947 w a m o_948 f => ?_)
      obtain ⟨G_950, hl_951, m, h_952⟩ := Ow.stamp (RI.mono _) o_948 m
      have h0_0 := RSl.mono (RSl.mono (RI.mono _)) _ _ _ _ hl_951 h0_0
      have g_938 := At.mono hl_951 g_938
      have h_939 := RSl.mono (RI.mono _) _ _ _ _ hl_951 h_939
      have g_944 := At.mono hl_951 g_944
      have o_854 := Ow.mono (RSl.mono (RI.mono _)) hl_951 o_854
      have m : Mem W G_950 w (Itm.box b_2 29 [v0_0] :: it_853 :: H) := m
      refine l_slit (R := (RSl (RI .i64))) (xs := ([([x_490, e_940] : List Int)] : List (List Int))) (RSl.one _) m T27 f rfl rfl rfl (by decide) (All2.cons h_952 (All2.nil _)) (fun it_953 v_954 w a m o_955 f => ?_)
      obtain ⟨l_957, hx_958, hs_846⟩ := bind_some hs_846
      refine l_append (RSl.one _) 2 m o_854 rfl T27 rfl (by decide) f rfl rfl rfl (Ow.src (j := 0) o_955 m rfl) hx_958 (fun it_959 v_960 w a m o_961 f => ?_)
      have m : Mem W G_950 w (it_953 :: Itm.box b_2 29 [v0_0] :: it_959 :: H) := m
      refine l_op f rfl rfl rfl (r_assign (f.eval rfl)) (fun a f => ?_)
      refine l_nil ?_
      refine k_region ?_
      refine l_op f rfl rfl rfl (r_move (f.eval rfl)) (fun a f => ?_)
      refine l_op f rfl rfl rfl (r_int (f.eval rfl) (f.eval rfl) b_add) (fun a f => ?_)
      refine l_op f rfl rfl rfl (r_assign (f.eval rfl)) (fun a f => ?_)
      refine l_nil ?_
      have m : Mem W G_950 w (it_959 :: it_953 :: Itm.box b_2 29 [v0_0] :: H) := m.front 2 rfl
      have m : Mem W G_950 w (Itm.box b_2 29 [v0_0] :: it_959 :: it_953 :: H) := m.front 2 rfl
      have m : Mem W G_950 w (Itm.box b_2 29 [v0_0] :: it_959 :: H) := m.eraseAt 2
      obtain rfl := Option.some.inj hs_846
      exact ⟨_, rfl, _, _, rfl, _, v_960, it_959, (GLe.trans hl_857 hl_951), f.weak ⟨rfl, rfl, rfl, rfl, trivial⟩, m, o_961⟩
     ·refine k_false f rfl hc_933 ?_
      refine k_skip ?_
      refine k_region ?_
      refine l_op f rfl rfl rfl (r_move (f.eval rfl)) (fun a f => ?_)
      refine l_op f rfl rfl rfl (r_int (f.eval rfl) (f.eval rfl) b_add) (fun a f => ?_)
      refine l_op f rfl rfl rfl (r_assign (f.eval rfl)) (fun a f => ?_)
      refine l_nil ?_
      have m : Mem W G_850 w (it_853 :: Itm.box b_2 29 [v0_0] :: H) := m.front 1 rfl
      have m : Mem W G_850 w (Itm.box b_2 29 [v0_0] :: it_853 :: H) := m.front 1 rfl
      obtain rfl := Option.some.inj hs_846
      exact ⟨_, rfl, _, _, rfl, _, v_852, it_853, hl_857, f.weak ⟨rfl, rfl, rfl, rfl, trivial⟩, m, o_854⟩
    ·refine k_false f rfl hc_920 ?_
     refine k_exit rfl ?_
     have m : Mem W G_850 w (it_853 :: Itm.box b_2 29 [v0_0] :: H) := m.front 1 rfl
     have m : Mem W G_850 w (Itm.box b_2 29 [v0_0] :: it_853 :: H) := m.front 1 rfl
     obtain rfl := Option.some.inj hs_846
     obtain rfl := hq_847 _ rfl
     exact ⟨_, rfl, _, v_852, it_853, hl_857, f.weak ⟨rfl, rfl, rfl, trivial⟩, m, o_854⟩
   ·rintro a w ⟨l_908, rfl, G_907, v_909, it_910, hl_913, f, m, o_911⟩
    have h0_0 := RSl.mono (RSl.mono (RI.mono _)) _ _ _ _ hl_913 h0_0
    refine k_region ?_
    refine l_op f rfl rfl rfl (r_move (f.eval rfl)) (fun a f => ?_)
    refine l_op f rfl rfl rfl (r_int (f.eval rfl) (f.eval rfl) b_add) (fun a f => ?_)
    refine l_op f rfl rfl rfl (r_assign (f.eval rfl)) (fun a f => ?_)
    refine l_nil ?_
    have m : Mem W G_907 w (it_910 :: Itm.box b_2 29 [v0_0] :: H) := m.front 1 rfl
    have m : Mem W G_907 w (Itm.box b_2 29 [v0_0] :: it_910 :: H) := m.front 1 rfl
    obtain rfl := Option.some.inj hs_480
    exact ⟨_, rfl, _, _, rfl, _, v_909, it_910, (GLe.trans hl_491 (GLe.trans hl_734 hl_913)), f.weak ⟨rfl, rfl, rfl, trivial⟩, m, o_911⟩
  ·refine k_false f rfl hc_738 ?_
   refine k_exit rfl ?_
   have m : Mem W G_733 w (it_487 :: Itm.box b_2 29 [v0_0] :: H) := m.front 1 rfl
   have m : Mem W G_733 w (it_487 :: H) := m.eraseAt 1
   obtain rfl := Option.some.inj hs_480
   obtain rfl := hq_481 _ rfl
   exact ⟨_, rfl, _, v_486, it_487, (GLe.trans hl_491 hl_734), f.weak ⟨rfl, trivial⟩, m, o_488⟩
 ·rintro a w ⟨l_725, rfl, G_724, v_726, it_727, hl_730, f, m, o_728⟩
  refine k_seq ?_
  refine k_region ?_
  refine l_op f rfl rfl rfl (r_move (f.eval rfl)) (fun a f => ?_)
  refine l_op f rfl rfl rfl (r_assign (f.eval rfl)) (fun a f => ?_)
  refine l_nil ?_
  refine k_ret ?_
  obtain rfl := Option.some.inj hd
  exact ⟨[v_726], ⟨f.get _ _ rfl, trivial⟩, f.defers, _, [it_727], hl_730, m, _, _, rfl, rfl, o_728⟩

theorem Wk.spec_l1Max {W w : World} {G : GH} {H : List Itm} {x0 : Int} {x1 : Int} (m : Mem W G w (H))  {y : Int} (hd : D.spec_l1Max x0 x1 = some y) :
  Calls Tryd.prog 65 #[(.int .i64 x0), (.int .i64 x1)] w (Res W G H (fun _ Ho v => Ho = [] ∧ v = (.int .i64 y))) := by
 refine calls_b (args := [(.int .i64 x0), (.int .i64 x1)]) (N := 10) [.tmp 4] Tryd.func65 rfl rfl (Nat.le_of_ble_eq_true rfl) rfl (fun a f => ?_)
 unfold D.spec_l1Max at hd
 refine k_seq ?_
 refine k_region ?_
 refine l_op f rfl rfl rfl (r_assign (f.eval rfl)) (fun a f => ?_)
 refine l_nil ?_
 refine k_seq ?_
 refine k_seq ?_
 refine k_region ?_
 refine l_op f rfl rfl rfl (r_move (f.eval rfl)) (fun a f => ?_)
 refine l_op f rfl rfl rfl (r_move (f.eval rfl)) (fun a f => ?_)
 refine l_op f rfl rfl rfl (r_int (f.eval rfl) (f.eval rfl) b_gtr) (fun a f => ?_)
 refine l_nil ?_
 rcases cond_some hd with ⟨hc_1, hd⟩ | ⟨hc_1, hd⟩
 ·refine k_true f rfl hc_1 ?_
  refine k_seq ?_
  refine k_region ?_
  refine l_op f rfl rfl rfl (r_move (f.eval rfl)) (fun a f => ?_)
  refine l_op f rfl rfl rfl (r_assign (f.eval rfl)) (fun a f => ?_)
  refine l_nil ?_
  refine k_ret ?_
  obtain rfl := Option.some.inj hd
  exact ⟨[(.int .i64 x0)], ⟨f.get _ _ rfl, trivial⟩, f.defers, _, [], (GLe.refl _), m, rfl, rfl⟩
 ·refine k_false f rfl hc_1 ?_
  refine k_skip ?_
  refine k_seq ?_
  refine k_region ?_
  refine l_op f rfl rfl rfl (r_move (f.eval rfl)) (fun a f => ?_)
  refine l_op f rfl rfl rfl (r_assign (f.eval rfl)) (fun a f => ?_)
  refine l_nil ?_
  refine k_ret ?_
  obtain rfl := Option.some.inj hd
  exact ⟨[(.int .i64 x1)], ⟨f.get _ _ rfl, trivial⟩, f.defers, _, [], (GLe.refl _), m, rfl, rfl⟩

end Go.Proofs.YtehnblgkgaakeaaDoor

set_option maxRecDepth 100000
namespace Go.Proofs.YtehnblgkgaakeaaDoor
open Go Go.Sx
theorem Pl4 : Plain Tryd.prog 4 := Tryd.isAgg4
theorem T103 : SlT Tryd.prog 103 4 1 1 (.bool false) := ⟨Tryd.underlying103, Tryd.t4, by kernel_rfl, by kernel_rfl, by kernel_rfl, by kernel_rfl⟩

theorem Wk.laws_w5Graph {W w : World} {G : GH} {H : List Itm} {v0_0 : Value} {b0 : Nat} {x0_0 : (List Int)} {x0_1 : Int} {x0_2 : Int} {x1 : Int} (m : Mem W G w (Itm.box b0 55 [v0_0, (.int .i64 x0_1), (.int .u64 x0_2)] :: H)) (h0_0 : RSl (RI .u8) G v0_0 x0_0) {y : ((List (List Int))) × ((List Int)) × Int × Int} (hd : D.laws_w5Graph x0_0 x0_1 x0_2 x1 = some y) :
  Calls Tryd.prog 28 #[(.pointer (some ⟨b0, 0, none⟩)), (.int .i64 x1)] w (Res W G H (fun G' Ho v => ∃ r0 : Value, ∃ i0 : Itm, ∃ r2 : Value, Ho = [i0, Itm.box b0 55 [r2, (.int .i64 y.2.2.1), (.int .u64 y.2.2.2)]] ∧ v = (.agg #[r0]) ∧ Ow (RSl (RI .i64)) 31 G' i0 r0 y.1 ∧ RSl (RI .u8) G' r2 y.2.1)) := by
 refine calls_b (args := [(.pointer (some ⟨b0, 0, none⟩)), (.int .i64 x1)]) (N := 47) [.cell 4 29] Tryd.func28 rfl rfl (Nat.le_of_ble_eq_true rfl) rfl (fun a f => ?_)
 unfold D.laws_w5Graph at hd
 refine k_seq ?_
 refine k_region ?_
 refine l_alloc (cs := [(.slice none 0 0)]) Tryd.zeroValue29 m f rfl rfl (fun b_2 w a m f => ?_)
 refine l_nil ?_
 refine k_seq ?_
 refine k_region ?_
 refine l_op f rfl rfl rfl (r_move (f.eval rfl)) (fun a f => ?_)
 refine l_op f rfl rfl rfl (r_move (f.eval rfl)) (fun a f => ?_)
 have m : Mem W G w (Itm.box b0 55 [v0_0, (.int .i64 x0_1), (.int .u64 x0_2)] :: Itm.box b_2 29 [(.slice none 0 0)] :: H) := m.front 1 rfl
 obtain ⟨y_3, hy_4, hd⟩ := bind_some hd
 refine l_res f rfl rfl Tryd.call41 (Wk.laws_dice_below m h0_0 hy_4) (fun v_8 G_5 Ho_9 w hl_6 m hQ_7 a f => ?_)
 obtain ⟨v_10, rfl, rfl, h_11⟩ := hQ_7
 have m : Mem W G_5 w (Itm.box b0 55 [v_10, (.int .i64 y_3.2.2.1), (.int .u64 y_3.2.2.2)] :: Itm.box b_2 29 [(.slice none 0 0)] :: H) := m
 refine l_op f rfl rfl rfl (r_int (f.eval rfl) (f.eval rfl) b_add) (fun a f => ?_)
 refine l_op f rfl rfl rfl (r_assign (f.eval rfl)) (fun a f => ?_)
 refine l_nil ?_
 refine k_seq ?_
 refine k_region ?_
 refine l_op f rfl rfl rfl (r_move (f.eval rfl)) (fun a f => ?_)
 obtain ⟨y_12, hy_13, hd⟩ := bind_some hd
 refine l_res f rfl rfl Tryd.call41 (Wk.laws_dice_below m h_11 hy_13) (fun v_17 G_14 Ho_18 w hl_15 m hQ_16 a f => ?_)
 obtain ⟨v_19, rfl, rfl, h_20⟩ := hQ_16
 have m : Mem W G_14 w (Itm.box b0 55 [v_19, (.int .i64 y_12.2.2.1), (.int .u64 y_12.2.2.2)] :: Itm.box b_2 29 [(.slice none 0 0)] :: H) := m
 refine l_op f rfl rfl rfl (r_int (f.eval rfl) (f.eval rfl) b_add) (fun a f => ?_)
 refine l_op f rfl rfl rfl (r_assign (f.eval rfl)) (fun a f => ?_)
 refine l_nil ?_
 refine k_seq ?_
 refine k_region ?_
 refine l_slit (R := (RSl (RI .i64))) (xs := ([] : List (List Int))) (RSl.one _) m T27 f rfl rfl rfl (by decide) (All2.nil _) (fun it_21 v_22 w a m o_23 f => ?_)
 refine l_op f rfl rfl rfl (r_assign (f.eval rfl)) (fun a f => ?_)
 refine l_nil ?_
 refine k_seq ?_
 refine k_seq ?_
 refine k_region ?_
 refine l_op f rfl rfl rfl (r_assign (f.eval rfl)) (fun a f => ?_)
 refine l_nil ?_
 obtain ⟨q_349, hl_350, hd⟩ := bind_some hd
 refine k_cut (fun a w => ∃ l_525 : List (List Int), ∃ l_530 : List Int, ∃ x_533 : Int, ∃ x_534 : Int, (l_525, l_530, x_533, x_534) = q_349 ∧ ∃ (G_524 : GH) (v_526 : Value) (it_527 : Itm) (v_531 : Value), GLe G_14 G_524 ∧ Fr a 47 [(4, (.pointer (some ⟨b_2, 0, none⟩))), (5, (.int .i64 (IntKind.i64.wrap (1 + y_3.1)))), (7, v_526)] ∧ Mem W G_524 w (Itm.box b_2 29 [(.slice none 0 0)] :: Itm.box b0 55 [v_531, (.int .i64 x_533), (.int .u64 x_534)] :: it_527 :: H) ∧ Ow (RSl (RI .i64)) 31 G_524 it_527 v_526 l_525 ∧ RSl (RI .u8) G_524 v_531 l_530) ?_ ?_
 ·refine k_block ?_
  have m : Mem W G_14 w (Itm.box b_2 29 [(.slice none 0 0)] :: it_21 :: Itm.box b0 55 [v_19, (.int .i64 y_12.2.2.1), (.int .u64 y_12.2.2.2)] :: H) := m.front 2 rfl
  have m : Mem W G_14 w (Itm.box b0 55 [v_19, (.int .i64 y_12.2.2.1), (.int .u64 y_12.2.2.2)] :: Itm.box b_2 29 [(.slice none 0 0)] :: it_21 :: H) := m.front 2 rfl
  refine k_loop (fun s_353 a w => ∃ l_356 : List (List Int), ∃ x_361 : Int, ∃ l_362 : List Int, ∃ x_365 : Int, ∃ x_366 : Int, (l_356, x_361, l_362, x_365, x_366) = s_353 ∧ ∃ (G_355 : GH) (v_357 : Value) (it_358 : Itm) (v_363 : Value), GLe G_14 G_355 ∧ Fr a 47 [(0, (.pointer (some ⟨b0, 0, none⟩))), (4, (.pointer (some ⟨b_2, 0, none⟩))), (5, (.int .i64 (IntKind.i64.wrap (1 + y_3.1)))), (6, (.int .i64 (IntKind.i64.wrap (1 + y_12.1)))), (7, v_357), (8, (.int .i64 x_361))] ∧ Mem W G_355 w (Itm.box b0 55 [v_363, (.int .i64 x_365), (.int .u64 x_366)] :: Itm.box b_2 29 [(.slice none 0 0)] :: it_358 :: H) ∧ Ow (RSl (RI .i64)) 31 G_355 it_358 v_357 l_356 ∧ RSl (RI .u8) G_355 v_363 l_362) hl_350 ⟨_, _, _, _, _, rfl, _, v_22, it_21, v_19, (GLe.refl _), f.weak ⟨rfl, rfl, rfl, rfl, rfl, rfl, trivial⟩, m, o_23, h_20⟩ ?_
  clear hl_350 f m
  rintro s_353 o_354 hs_351 hq_352 a w ⟨l_356, x_361, l_362, x_365, x_366, rfl, G_355, v_357, it_358, v_363, hl_367, f, m, o_359, h_364⟩
  refine k_seq ?_
  refine k_seq ?_
  refine k_region ?_
  refine l_op f rfl rfl rfl (r_move (f.eval rfl)) (fun a f => ?_)
  refine l_op f rfl rfl rfl (r_move (f.eval rfl)) (fun a f => ?_)
  refine l_op f rfl rfl rfl (r_int (f.eval rfl) (f.eval rfl) b_lss) (fun a f => ?_)
  refine l_nil ?_
  rcases cond_some hs_351 with ⟨hc_536, hs_351⟩ | ⟨hc_536, hs_351⟩
  ·refine k_true f rfl hc_536 ?_
   refine k_skip ?_
   refine k_seq ?_
   refine k_block ?_
   refine k_seq ?_
   refine k_region ?_
   refine l_op f rfl rfl rfl (r_assign (f.eval rfl)) (fun a f => ?_)
   refine l_nil ?_
   obtain ⟨q_605, hl_606, hs_351⟩ := bind_some hs_351
   refine k_cut (fun a w => ∃ l_653 : List (List Int), ∃ l_658 : List Int, ∃ x_661 : Int, ∃ x_662 : Int, (l_653, l_658, x_661, x_662) = q_605 ∧ ∃ (G_652 : GH) (v_654 : Value) (it_655 : Itm) (v_659 : Value), GLe G_355 G_652 ∧ Fr a 47 [(0, (.pointer (some ⟨b0, 0, none⟩))), (4, (.pointer (some ⟨b_2, 0, none⟩))), (5, (.int .i64 (IntKind.i64.wrap (1 + y_3.1)))), (6, (.int .i64 (IntKind.i64.wrap (1 + y_12.1)))), (7, v_654), (8, (.int .i64 x_361))] ∧ Mem W G_652 w (Itm.box b0 55 [v_659, (.int .i64 x_661), (.int .u64 x_662)] :: Itm.box b_2 29 [(.slice none 0 0)] :: it_655 :: H) ∧ Ow (RSl (RI .i64)) 31 G_652 it_655 v_654 l_653 ∧ RSl (RI .u8) G_652 v_659 l_658) ?_ ?_
   ·refine k_block ?_
    have m : Mem W G_355 w (it_358 :: Itm.box b0 55 [v_363, (.int .i64 x_365), (.int .u64 x_366)] :: Itm.box b_2 29 [(.slice none 0 0)] :: H) := m.front 2 rfl
    have m : Mem W G_355 w (Itm.box b_2 29 [(.slice none 0 0)] :: it_358 :: Itm.box b0 55 [v_363, (.int .i64 x_365), (.int .u64 x_366)] :: H) := m.front 2 rfl
    have m : Mem W G_355 w (Itm.box b0 55 [v_363, (.int .i64 x_365), (.int .u64 x_366)] :: Itm.box b_2 29 [(.slice none 0 0)] :: it_358 :: H) := m.front 2 rfl
    refine k_loop (fun s_609 a w => ∃ l_612 : List (List Int), ∃ x_617 : Int, ∃ l_618 : List Int, ∃ x_621 : Int, ∃ x_622 : Int, (l_612, x_617, l_618, x_621, x_622) = s_609 ∧ ∃ (G_611 : GH) (v_613 : Value) (it_614 : Itm) (v_619 : Value), GLe G_355 G_611 ∧ Fr a 47 [(0, (.pointer (some ⟨b0, 0, none⟩))), (4, (.pointer (some ⟨b_2, 0, none⟩))), (5, (.int .i64 (IntKind.i64.wrap (1 + y_3.1)))), (6, (.int .i64 (IntKind.i64.wrap (1 + y_12.1)))), (7, v_613), (8, (.int .i64 x_361)), (9, (.int .i64 x_617))] ∧ Mem W G_611 w (Itm.box b0 55 [v_619, (.int .i64 x_621), (.int .u64 x_622)] :: Itm.box b_2 29 [(.slice none 0 0)] :: it_614 :: H) ∧ Ow (RSl (RI .i64)) 31 G_611 it_614 v_613 l_612 ∧ RSl (RI .u8) G_611 v_619 l_618) hl_606 ⟨_, _, _, _, _, rfl, _, v_357, it_358, v_363, (GLe.refl _), f.weak ⟨rfl, rfl, rfl, rfl, rfl, rfl, rfl, trivial⟩, m, o_359, h_364⟩ ?_
    clear hl_606 f m
    rintro s_609 o_610 hs_607 hq_608 a w ⟨l_612, x_617, l_618, x_621, x_622, rfl, G_611, v_613, it_614, v_619, hl_623, f, m, o_615, h_620⟩
    refine k_seq ?_
    refine k_seq ?_
    refine k_region ?_
    refine l_op f rfl rfl rfl (r_move (f.eval rfl)) (fun a f => ?_)
    refine l_op f rfl rfl rfl (r_move (f.eval rfl)) (fun a f => ?_)
    refine l_op f rfl rfl rfl (r_int (f.eval rfl) (f.eval rfl) b_lss) (fun a f => ?_)
    refine l_nil ?_
    rcases cond_some hs_607 with ⟨hc_664, hs_607⟩ | ⟨hc_664, hs_607⟩
    ·refine k_true f rfl hc_664 ?_
     refine k_skip ?_
     refine k_seq ?_
     refine k_block ?_
     refine k_seq ?_
     refine k_region ?_
     refine l_op f rfl rfl rfl (r_move (f.eval rfl)) (fun a f => ?_)
     obtain ⟨y_665, hy_666, hs_607⟩ := bind_some hs_607
     refine l_res f rfl rfl Tryd.call41 (Wk.laws_dice_below m h_620 hy_666) (fun v_670 G_667 Ho_671 w hl_668 m hQ_669 a f => ?_)
     obtain ⟨v_672, rfl, rfl, h_673⟩ := hQ_669
     have o_615 := Ow.mono (RSl.mono (RI.mono _)) hl_668 o_615
     have m : Mem W G_667 w (Itm.box b0 55 [v_672, (.int .i64 y_665.2.2.1), (.int .u64 y_665.2.2.2)] :: Itm.box b_2 29 [(.slice none 0 0)] :: it_614 :: H) := m
     refine l_op f rfl rfl rfl (r_move (f.eval rfl)) (fun a f => ?_)
     refine l_op f rfl rfl rfl (r_int (f.eval rfl) (f.eval rfl) b_lss) (fun a f => ?_)
     refine l_nil ?_
     rcases cond_some hs_607 with ⟨hc_674, hs_607⟩ | ⟨hc_674, hs_607⟩
     ·refine k_true f rfl hc_674 ?_
      refine k_region ?_
      refine l_op f rfl rfl rfl (r_move (f.eval rfl)) (fun a f => ?_)
      refine l_op f rfl rfl rfl (r_move (f.eval rfl)) (fun a f => ?_)
      refine l_op f rfl rfl rfl (r_move (f.eval rfl)) (fun a f => ?_)
      refine l_slit (R := (RI .i64)) (xs := ([x_617, x_361] : List Int)) (RI.one _) m T31 f rfl rfl rfl (by decide) (All2.cons rfl (All2.cons rfl (All2.nil _))) (fun it_675 v_676 w a m o_677 f => ?_)
      obtain ⟨G_679, hl_680, m, h_681⟩ := Ow.stamp (RI.mono _) o_677 m
      have h_673 := RSl.mono (RI.mono _) _ _ _ _ hl_680 h_673
      have o_615 := Ow.mono (RSl.mono (RI.mono _)) hl_680 o_615
      have m : Mem W G_679 w (Itm.box b0 55 [v_672, (.int .i64 y_665.2.2.1), (.int .u64 y_665.2.2.2)] :: Itm.box b_2 29 [(.slice none 0 0)] :: it_614 :: H) := m
      refine l_slit (R := (RSl (RI .i64))) (xs := ([([x_617, x_361] : List Int)] : List (List Int))) (RSl.one _) m T27 f rfl rfl rfl (by decide) (All2.cons h_681 (All2.nil _)) (fun it_682 v_683 w a m o_684 f => ?_)
      obtain ⟨l_686, hx_687, hs_607⟩ := bind_some hs_607
      refine l_append (RSl.one _) 3 m o_615 rfl T27 rfl (by decide) f rfl rfl rfl (Ow.src (j := 0) o_684 m rfl) hx_687 (fun it_688 v_689 w a m o_690 f => ?_)
      have m : Mem W G_679 w (it_682 :: Itm.box b0 55 [v_672, (.int .i64 y_665.2.2.1), (.int .u64 y_665.2.2.2)] :: Itm.box b_2 29 [(.slice none 0 0)] :: it_688 :: H) := m
      refine l_op f rfl rfl rfl (r_assign (f.eval rfl)) (fun a f => ?_)
      refine l_nil ?_
      refine k_region ?_
      refine l_op f rfl rfl rfl (r_move (f.eval rfl)) (fun a f => ?_)
      refine l_op f rfl rfl rfl (r_int (f.eval rfl) (f.eval rfl) b_add) (fun a f => ?_)
      refine l_op f rfl rfl rfl (r_assign (f.eval rfl)) (fun a f => ?_)
      refine l_nil ?_
      have m : Mem W G_679 w (it_688 :: it_682 :: Itm.box b0 55 [v_672, (.int .i64 y_665.2.2.1), (.int .u64 y_665.2.2.2)] :: Itm.box b_2 29 [(.slice none 0 0)] :: H) := m.front 3 rfl
      have m : Mem W G_679 w (Itm.box b_2 29 [(.slice none 0 0)] :: it_688 :: it_682 :: Itm.box b0 55 [v_672, (.int .i64 y_665.2.2.1), (.int .u64 y_665.2.2.2)] :: H) := m.front 3 rfl
      have m : Mem W G_679 w (Itm.box b0 55 [v_672, (.int .i64 y_665.2.2.1), (.int .u64 y_665.2.2.2)] :: Itm.box b_2 29 [(.slice none 0 0)] :: it_688 :: it_682 :: H) := m.front 3 rfl
      have m : Mem W G_679 w (Itm.box b0 55 [v_672, (.int .i64 y_665.2.2.1), (.int .u64 y_665.2.2.2)] :: Itm.box b_2 29 [(.slice none 0 0)] :: it_688 :: H) := m.eraseAt 3
      obtain rfl := Option.some.inj hs_607
      exact ⟨_, rfl, _, _, _, _, _, rfl, _, v_689, it_688, v_672, (GLe.trans hl_623 (GLe.trans hl_668 hl_680)), f.weak ⟨rfl, rfl, rfl, rfl, rfl, rfl, rfl, trivial⟩, m, o_690, h_673⟩
     ·refine k_false f rfl hc_674 ?_
      refine k_skip ?_
      refine k_region ?_
      refine l_op f rfl rfl rfl (r_move (f.eval rfl)) (fun a f => ?_)
      refine l_op f rfl rfl rfl (r_int (f.eval rfl) (f.eval rfl) b_add) (fun a f => ?_)
      refine l_op f rfl rfl rfl (r_assign (f.eval rfl)) (fun a f => ?_)
      refine l_nil ?_
      have m : Mem W G_667 w (it_614 :: Itm.box b0 55 [v_672, (.int .i64 y_665.2.2.1), (.int .u64 y_665.2.2.2)] :: Itm.box b_2 29 [(.slice none 0 0)] :: H) := m.front 2 rfl
      have m : Mem W G_667 w (Itm.box b_2 29 [(.slice none 0 0)] :: it_614 :: Itm.box b0 55 [v_672, (.int .i64 y_665.2.2.1), (.int .u64 y_665.2.2.2)] :: H) := m.front 2 rfl
      have m : Mem W G_667 w (Itm.box b0 55 [v_672, (.int .i64 y_665.2.2.1), (.int .u64 y_665.2.2.2)] :: Itm.box b_2 29 [(.slice none 0 0)] :: it_614 :: H) := m.front 2 rfl
      obtain rfl := Option.some.inj hs_607
      exact ⟨_, rfl, _, _, _, _, _, rfl, _, v_613, it_614, v_672, (GLe.trans hl_623 hl_668), f.weak ⟨rfl, rfl, rfl, rfl, rfl, rfl, rfl, trivial⟩, m, o_615, h_673⟩
    ·refine k_false f rfl hc_664 ?_
     refine k_exit rfl ?_
     have m : Mem W G_611 w (it_614 :: Itm.box b0 55 [v_619, (.int .i64 x_621), (.int .u64 x_622)] :: Itm.box b_2 29 [(.slice none 0 0)] :: H) := m.front 2 rfl
     have m : Mem W G_611 w (Itm.box b_2 29 [(.slice none 0 0)] :: it_614 :: Itm.box b0 55 [v_619, (.int .i64 x_621), (.int .u64 x_622)] :: H) := m.front 2 rfl
     have m : Mem W G_611 w (Itm.box b0 55 [v_619, (.int .i64 x_621), (.int .u64 x_622)] :: Itm.box b_2 29 [(.slice none 0 0)] :: it_614 :: H) := m.front 2 rfl
     obtain rfl := Option.some.inj hs_607
     obtain rfl := hq_608 _ rfl
     exact ⟨_, _, _, _, rfl, _, v_613, it_614, v_619, hl_623, f.weak ⟨rfl, rfl, rfl, rfl, rfl, rfl, trivial⟩, m, o_615, h_620⟩
   ·rintro a w ⟨l_653, l_658, x_661, x_662, rfl, G_652, v_654, it_655, v_659, hl_663, f, m, o_656, h_660⟩
    refine k_region ?_
    refine l_op f rfl rfl rfl (r_move (f.eval rfl)) (fun a f => ?_)
    refine l_op f rfl rfl rfl (r_int (f.eval rfl) (f.eval rfl) b_add) (fun a f => ?_)
    refine l_op f rfl rfl rfl (r_assign (f.eval rfl)) (fun a f => ?_)
    refine l_nil ?_
    have m : Mem W G_652 w (it_655 :: Itm.box b0 55 [v_659, (.int .i64 x_661), (.int .u64 x_662)] :: Itm.box b_2 29 [(.slice none 0 0)] :: H) := m.front 2 rfl
    have m : Mem W G_652 w (Itm.box b_2 29 [(.slice none 0 0)] :: it_655 :: Itm.box b0 55 [v_659, (.int .i64 x_661), (.int .u64 x_662)] :: H) := m.front 2 rfl
    have m : Mem W G_652 w (Itm.box b0 55 [v_659, (.int .i64 x_661), (.int .u64 x_662)] :: Itm.box b_2 29 [(.slice none 0 0)] :: it_655 :: H) := m.front 2 rfl
    obtain rfl := Option.some.inj hs_351
    exact ⟨_, rfl, _, _, _, _, _, rfl, _, v_654, it_655, v_659, (GLe.trans hl_367 hl_663), f.weak ⟨rfl, rfl, rfl, rfl, rfl, rfl, trivial⟩, m, o_656, h_660⟩
  ·refine k_false f rfl hc_536 ?_
   refine k_exit rfl ?_
   have m : Mem W G_355 w (it_358 :: Itm.box b0 55 [v_363, (.int .i64 x_365), (.int .u64 x_366)] :: Itm.box b_2 29 [(.slice none 0 0)] :: H) := m.front 2 rfl
   have m : Mem W G_355 w (Itm.box b0 55 [v_363, (.int .i64 x_365), (.int .u64 x_366)] :: it_358 :: Itm.box b_2 29 [(.slice none 0 0)] :: H) := m.front 1 rfl
   have m : Mem W G_355 w (Itm.box b_2 29 [(.slice none 0 0)] :: Itm.box b0 55 [v_363, (.int .i64 x_365), (.int .u64 x_366)] :: it_358 :: H) := m.front 2 rfl
   obtain rfl := Option.some.inj hs_351
   obtain rfl := hq_352 _ rfl
   exact ⟨_, _, _, _, rfl, _, v_357, it_358, v_363, hl_367, f.weak ⟨rfl, rfl, rfl, trivial⟩, m, o_359, h_364⟩
 ·rintro a w ⟨l_525, l_530, x_533, x_534, rfl, G_524, v_526, it_527, v_531, hl_535, f, m, o_528, h_532⟩
  refine k_seq ?_
  refine k_region ?_
  refine l_op f rfl rfl rfl (r_move (f.eval rfl)) (fun a f => ?_)
  refine l_op f rfl rfl rfl (r_move (f.eval rfl)) (fun a f => ?_)
  have m : Mem W G_524 w (it_527 :: Itm.box b_2 29 [(.slice none 0 0)] :: Itm.box b0 55 [v_531, (.int .i64 x_533), (.int .u64 x_534)] :: H) := m.front 2 rfl
  obtain ⟨G_692, hl_693, m, h_694⟩ := Ow.stamp (RSl.mono (RI.mono _)) o_528 m
  have h_532 := RSl.mono (RI.mono _) _ _ _ _ hl_693 h_532
  have m : Mem W G_692 w (Itm.box b_2 29 [(.slice none 0 0)] :: Itm.box b0 55 [v_531, (.int .i64 x_533), (.int .u64 x_534)] :: H) := m
  obtain ⟨y_695, hy_696, hd⟩ := bind_some hd
  refine l_res f rfl rfl Tryd.call42 (Wk.spec_GraphOf m h_694 hy_696) (fun v_700 G_697 Ho_701 w hl_698 m hQ_699 a f => ?_)
  obtain ⟨v_702, it_703, rfl, rfl, o_704⟩ := hQ_699
  have h_694 := RSl.mono (RSl.mono (RI.mono _)) _ _ _ _ hl_698 h_694
  have h_532 := RSl.mono (RI.mono _) _ _ _ _ hl_698 h_532
  have m : Mem W G_697 w (it_703 :: Itm.box b_2 29 [(.slice none 0 0)] :: Itm.box b0 55 [v_531, (.int .i64 x_533), (.int .u64 x_534)] :: H) := m
  refine l_op f rfl rfl rfl (r_move (f.eval rfl)) (fun a f => ?_)
  refine l_op f rfl rfl rfl (r_extract (f.eval rfl) rfl) (fun a f => ?_)
  refine l_op f rfl rfl rfl (r_extract (f.eval rfl) rfl) (fun a f => ?_)
  refine l_alloc (cs := [(.slice none 0 0)]) Tryd.zeroValue29 m f rfl rfl (fun b_707 w a m f => ?_)
  refine l_boxStore 0 0 (ds := [v_702]) m Tryd.sizeOf29 f rfl rfl rfl (ones_cons (Ow.one1 1 m o_704 rfl) ones_nil) rfl (Nat.le_of_ble_eq_true rfl) rfl (fun w m => ?_)
  have m : Mem W G_697 w (Itm.box b_707 29 [v_702] :: it_703 :: Itm.box b_2 29 [(.slice none 0 0)] :: Itm.box b0 55 [v_531, (.int .i64 x_533), (.int .u64 x_534)] :: H) := m
  refine l_op f rfl rfl rfl (r_assign (f.eval rfl)) (fun a f => ?_)
  refine l_nil ?_
  refine k_seq ?_
  refine k_region ?_
  refine l_boxAgg 0 0 (ds := [v_702]) m Ag29 f rfl rfl rfl rfl rfl (fun a f => ?_)
  refine l_boxStore 2 0 (ds := [v_702]) m Tryd.sizeOf29 f rfl rfl rfl (ones_cons (Ow.one1 1 m o_704 rfl) ones_nil) rfl (Nat.le_of_ble_eq_true rfl) rfl (fun w m => ?_)
  have m : Mem W G_697 w (Itm.box b_707 29 [v_702] :: it_703 :: Itm.box b_2 29 [v_702] :: Itm.box b0 55 [v_531, (.int .i64 x_533), (.int .u64 x_534)] :: H) := m
  refine l_nil ?_
  refine k_ret ?_
  have rc_708 := rr_agg (P := Tryd.prog) 2 m Ag29 f (s := 4) rfl rfl rfl
  have m : Mem W G_697 w (Itm.box b0 55 [v_531, (.int .i64 x_533), (.int .u64 x_534)] :: Itm.box b_707 29 [v_702] :: it_703 :: Itm.box b_2 29 [v_702] :: H) := m.front 3 rfl
  have m : Mem W G_697 w (it_703 :: Itm.box b0 55 [v_531, (.int .i64 x_533), (.int .u64 x_534)] :: Itm.box b_707 29 [v_702] :: Itm.box b_2 29 [v_702] :: H) := m.front 2 rfl
  have m : Mem W G_697 w (it_703 :: Itm.box b0 55 [v_531, (.int .i64 x_533), (.int .u64 x_534)] :: Itm.box b_707 29 [v_702] :: H) := m.eraseAt 3
  have m : Mem W G_697 w (it_703 :: Itm.box b0 55 [v_531, (.int .i64 x_533), (.int .u64 x_534)] :: H) := m.eraseAt 2
  obtain rfl := Option.some.inj hd
  exact ⟨[(.agg #[v_702])], ⟨rc_708, trivial⟩, f.defers, _, [it_703, Itm.box b0 55 [v_531, (.int .i64 x_533), (.int .u64 x_534)]], (GLe.trans hl_6 (GLe.trans hl_15 (GLe.trans hl_535 (GLe.trans hl_693 hl_698)))), m, _, _, _, rfl, rfl, o_704, h_532⟩

theorem Wk.laws_w5Order {W w : World} {G : GH} {H : List Itm} {v0_0 : Value} {b0 : Nat} {x0_0 : (List Int)} {x0_1 : Int} {x0_2 : Int} {x1 : Int} (m : Mem W G w (Itm.box b0 55 [v0_0, (.int .i64 x0_1), (.int .u64 x0_2)] :: H)) (h0_0 : RSl (RI .u8) G v0_0 x0_0) {y : ((List Int)) × ((List Int)) × Int × Int} (hd : D.laws_w5Order x0_0 x0_1 x0_2 x1 = some y) :
  Calls Tryd.prog 29 #[(.pointer (some ⟨b0, 0, none⟩)), (.int .i64 x1)] w (Res W G H (fun G' Ho v => ∃ r0 : Value, ∃ i0 : Itm, ∃ r2 : Value, Ho = [i0, Itm.box b0 55 [r2, (.int .i64 y.2.2.1), (.int .u64 y.2.2.2)]] ∧ r0 = v ∧ Ow (RI .i64) 2 G' i0 r0 y.1 ∧ RSl (RI .u8) G' r2 y.2.1)) := by
 refine calls_b (args := [(.pointer (some ⟨b0, 0, none⟩)), (.int .i64 x1)]) (N := 44) [.tmp 4] Tryd.func29 rfl rfl (Nat.le_of_ble_eq_true rfl) rfl (fun a f => ?_)
 unfold D.laws_w5Order at hd
 refine k_seq ?_
 refine k_region ?_
 refine l_op f rfl rfl rfl (r_assign (f.eval rfl)) (fun a f => ?_)
 refine l_nil ?_
 refine k_seq ?_
 refine k_region ?_
 refine l_slit (R := (RI .i64)) (xs := ([] : List Int)) (RI.one _) m T31 f rfl rfl rfl (by decide) (All2.nil _) (fun it_1 v_2 w a m o_3 f => ?_)
 refine l_op f rfl rfl rfl (r_assign (f.eval rfl)) (fun a f => ?_)
 refine l_nil ?_
 refine k_seq ?_
 refine k_seq ?_
 refine k_region ?_
 refine l_op f rfl rfl rfl (r_assign (f.eval rfl)) (fun a f => ?_)
 refine l_nil ?_
 obtain ⟨q_217, hl_218, hd⟩ := bind_some hd
 refine k_cut (fun a w => ∃ l_337 : List Int, ∃ l_342 : List Int, ∃ x_345 : Int, ∃ x_346 : Int, (l_337, l_342, x_345, x_346) = q_217 ∧ ∃ (G_336 : GH) (v_338 : Value) (it_339 : Itm) (v_343 : Value), GLe G G_336 ∧ Fr a 44 [(5, v_338)] ∧ Mem W G_336 w (Itm.box b0 55 [v_343, (.int .i64 x_345), (.int .u64 x_346)] :: it_339 :: H) ∧ Ow (RI .i64) 2 G_336 it_339 v_338 l_337 ∧ RSl (RI .u8) G_336 v_343 l_342) ?_ ?_
 ·refine k_block ?_
  have m : Mem W G w (Itm.box b0 55 [v0_0, (.int .i64 x0_1), (.int .u64 x0_2)] :: it_1 :: H) := m.front 1 rfl
  refine k_loop (fun s_221 a w => ∃ l_224 : List Int, ∃ x_229 : Int, ∃ l_230 : List Int, ∃ x_233 : Int, ∃ x_234 : Int, (l_224, x_229, l_230, x_233, x_234) = s_221 ∧ ∃ (G_223 : GH) (v_225 : Value) (it_226 : Itm) (v_231 : Value), GLe G G_223 ∧ Fr a 44 [(0, (.pointer (some ⟨b0, 0, none⟩))), (1, (.int .i64 x1)), (5, v_225), (6, (.int .i64 x_229))] ∧ Mem W G_223 w (Itm.box b0 55 [v_231, (.int .i64 x_233), (.int .u64 x_234)] :: it_226 :: H) ∧ Ow (RI .i64) 2 G_223 it_226 v_225 l_224 ∧ RSl (RI .u8) G_223 v_231 l_230) hl_218 ⟨_, _, _, _, _, rfl, _, v_2, it_1, v0_0, (GLe.refl _), f.weak ⟨rfl, rfl, rfl, rfl, trivial⟩, m, o_3, h0_0⟩ ?_
  clear hl_218 f m
  rintro s_221 o_222 hs_219 hq_220 a w ⟨l_224, x_229, l_230, x_233, x_234, rfl, G_223, v_225, it_226, v_231, hl_235, f, m, o_227, h_232⟩
  refine k_seq ?_
  refine k_seq ?_
  refine k_region ?_
  refine l_op f rfl rfl rfl (r_move (f.eval rfl)) (fun a f => ?_)
  refine l_op f rfl rfl rfl (r_move (f.eval rfl)) (fun a f => ?_)
  refine l_op f rfl rfl rfl (r_int (f.eval rfl) (f.eval rfl) b_lss) (fun a f => ?_)
  refine l_nil ?_
  rcases cond_some hs_219 with ⟨hc_348, hs_219⟩ | ⟨hc_348, hs_219⟩
  ·refine k_true f rfl hc_348 ?_
   refine k_skip ?_
   refine k_seq ?_
   refine k_block ?_
   refine k_seq ?_
   refine k_region ?_
   refine l_op f rfl rfl rfl (r_move (f.eval rfl)) (fun a f => ?_)
   refine l_op f rfl rfl rfl (r_move (f.eval rfl)) (fun a f => ?_)
   refine l_own_len 1 m o_227 rfl Tryd.underlying31 f rfl rfl (fun a f => ?_)
   refine l_op f rfl rfl rfl (r_int (f.eval rfl) (f.eval rfl) b_add) (fun a f => ?_)
   obtain ⟨y_349, hy_350, hs_219⟩ := bind_some hs_219
   refine l_res f rfl rfl Tryd.call41 (Wk.laws_dice_below m h_232 hy_350) (fun v_354 G_351 Ho_355 w hl_352 m hQ_353 a f => ?_)
   obtain ⟨v_356, rfl, rfl, h_357⟩ := hQ_353
   have o_227 := Ow.mono (RI.mono _) hl_352 o_227
   have m : Mem W G_351 w (Itm.box b0 55 [v_356, (.int .i64 y_349.2.2.1), (.int .u64 y_349.2.2.2)] :: it_226 :: H) := m
   refine l_op f rfl rfl rfl (r_assign (f.eval rfl)) (fun a f => ?_)
   refine l_nil ?_
   refine k_seq ?_
   refine k_region ?_
   refine l_op f rfl rfl rfl (r_move (f.eval rfl)) (fun a f => ?_)
   refine l_slit (R := (RI .i64)) (xs := ([0] : List Int)) (RI.one _) m T31 f rfl rfl rfl (by decide) (All2.cons rfl (All2.nil _)) (fun it_358 v_359 w a m o_360 f => ?_)
   obtain ⟨l_362, hx_363, hs_219⟩ := bind_some hs_219
   refine l_append (RI.one _) 2 m o_227 rfl T31 rfl (by decide) f rfl rfl rfl (Ow.src (j := 0) o_360 m rfl) hx_363 (fun it_364 v_365 w a m o_366 f => ?_)
   have m : Mem W G_351 w (it_358 :: Itm.box b0 55 [v_356, (.int .i64 y_349.2.2.1), (.int .u64 y_349.2.2.2)] :: it_364 :: H) := m
   refine l_op f rfl rfl rfl (r_assign (f.eval rfl)) (fun a f => ?_)
   refine l_nil ?_
   refine k_seq ?_
   refine k_seq ?_
   refine k_region ?_
   refine l_op f rfl rfl rfl (r_move (f.eval rfl)) (fun a f => ?_)
   refine l_own_len 2 m o_366 rfl Tryd.underlying31 f rfl rfl (fun a f => ?_)
   refine l_op f rfl rfl rfl (r_int (f.eval rfl) (f.eval rfl) b_sub) (fun a f => ?_)
   refine l_op f rfl rfl rfl (r_assign (f.eval rfl)) (fun a f => ?_)
   refine l_nil ?_
   obtain ⟨q_399, hl_400, hs_219⟩ := bind_some hs_219
   refine k_cut (fun a w => ∃ l_425 : List Int, l_425 = q_399 ∧ ∃ (G_424 : GH) (it_426 : Itm), GLe G_351 G_424 ∧ Fr a 44 [(0, (.pointer (some ⟨b0, 0, none⟩))), (1, (.int .i64 x1)), (5, v_365), (6, (.int .i64 x_229)), (7, (.int .i64 y_349.1))] ∧ Mem W G_424 w (Itm.box b0 55 [v_356, (.int .i64 y_349.2.2.1), (.int .u64 y_349.2.2.2)] :: it_426 :: H) ∧ Ow (RI .i64) 2 G_424 it_426 v_365 l_425) ?_ ?_
   ·refine k_block ?_
    have m : Mem W G_351 w (it_364 :: it_358 :: Itm.box b0 55 [v_356, (.int .i64 y_349.2.2.1), (.int .u64 y_349.2.2.2)] :: H) := m.front 2 rfl
    have m : Mem W G_351 w (Itm.box b0 55 [v_356, (.int .i64 y_349.2.2.1), (.int .u64 y_349.2.2.2)] :: it_364 :: it_358 :: H) := m.front 2 rfl
    have m : Mem W G_351 w (Itm.box b0 55 [v_356, (.int .i64 y_349.2.2.1), (.int .u64 y_349.2.2.2)] :: it_364 :: H) := m.eraseAt 2
    refine k_loop (fun s_403 a w => ∃ l_406 : List Int, ∃ x_409 : Int, (l_406, x_409) = s_403 ∧ ∃ (G_405 : GH) (it_407 : Itm), GLe G_351 G_405 ∧ Fr a 44 [(0, (.pointer (some ⟨b0, 0, none⟩))), (1, (.int .i64 x1)), (5, v_365), (6, (.int .i64 x_229)), (7, (.int .i64 y_349.1)), (8, (.int .i64 x_409))] ∧ Mem W G_405 w (Itm.box b0 55 [v_356, (.int .i64 y_349.2.2.1), (.int .u64 y_349.2.2.2)] :: it_407 :: H) ∧ Ow (RI .i64) 2 G_405 it_407 v_365 l_406) hl_400 ⟨_, _, rfl, _, it_364, (GLe.refl _), f.weak ⟨rfl, rfl, rfl, rfl, rfl, rfl, trivial⟩, m, o_366⟩ ?_
    clear hl_400 f m
    rintro s_403 o_404 hs_401 hq_402 a w ⟨l_406, x_409, rfl, G_405, it_407, hl_410, f, m, o_408⟩
    have h_357 := RSl.mono (RI.mono _) _ _ _ _ hl_410 h_357
    refine k_seq ?_
    refine k_seq ?_
    refine k_region ?_
    refine l_op f rfl rfl rfl (r_move (f.eval rfl)) (fun a f => ?_)
    refine l_op f rfl rfl rfl (r_move (f.eval rfl)) (fun a f => ?_)
    refine l_op f rfl rfl rfl (r_int (f.eval rfl) (f.eval rfl) b_gtr) (fun a f => ?_)
    refine l_nil ?_
    rcases cond_some hs_401 with ⟨hc_429, hs_401⟩ | ⟨hc_429, hs_401⟩
    ·refine k_true f rfl hc_429 ?_
     refine k_skip ?_
     refine k_seq ?_
     refine k_block ?_
     refine k_region ?_
     refine l_op f rfl rfl rfl (r_move (f.eval rfl)) (fun a f => ?_)
     refine l_op f rfl rfl rfl (r_move (f.eval rfl)) (fun a f => ?_)
     refine l_op f rfl rfl rfl (r_move (f.eval rfl)) (fun a f => ?_)
     refine l_op f rfl rfl rfl (r_move (f.eval rfl)) (fun a f => ?_)
     refine l_op f rfl rfl rfl (r_int (f.eval rfl) (f.eval rfl) b_sub) (fun a f => ?_)
     obtain ⟨e_430, he_431, hs_401⟩ := bind_some hs_401
     refine l_own_at 1 m o_408 rfl T31 f rfl rfl rfl he_431 (fun p_432 a ha_433 f => ?_)
     refine l_own_load 1 m o_408 rfl Pl2 f rfl rfl ha_433 he_431 (fun c_434 a h_435 f => ?_)
     subst h_435
     obtain ⟨e_436, he_437, hs_401⟩ := bind_some hs_401
     refine l_own_at 1 m o_408 rfl T31 f rfl rfl rfl he_437 (fun p_438 a ha_439 f => ?_)
     refine l_own_store 1 m o_408 rfl Tryd.sizeOf2 f rfl rfl ha_439 he_437 rfl rfl rfl (fun it_440 w m o_441 => ?_)
     have m : Mem W G_405 w (Itm.box b0 55 [v_356, (.int .i64 y_349.2.2.1), (.int .u64 y_349.2.2.2)] :: it_440 :: H) := m
     refine l_nil ?_
     refine k_region ?_
     refine l_op f rfl rfl rfl (r_move (f.eval rfl)) (fun a f => ?_)
     refine l_op f rfl rfl rfl (r_int (f.eval rfl) (f.eval rfl) b_sub) (fun a f => ?_)
     refine l_op f rfl rfl rfl (r_assign (f.eval rfl)) (fun a f => ?_)
     refine l_nil ?_
     have m : Mem W G_405 w (it_440 :: Itm.box b0 55 [v_356, (.int .i64 y_349.2.2.1), (.int .u64 y_349.2.2.2)] :: H) := m.front 1 rfl
     have m : Mem W G_405 w (Itm.box b0 55 [v_356, (.int .i64 y_349.2.2.1), (.int .u64 y_349.2.2.2)] :: it_440 :: H) := m.front 1 rfl
     obtain rfl := Option.some.inj hs_401
     exact ⟨_, rfl, _, _, rfl, _, it_440, hl_410, f.weak ⟨rfl, rfl, rfl, rfl, rfl, rfl, trivial⟩, m, o_441⟩
    ·refine k_false f rfl hc_429 ?_
     refine k_exit rfl ?_
     have m : Mem W G_405 w (it_407 :: Itm.box b0 55 [v_356, (.int .i64 y_349.2.2.1), (.int .u64 y_349.2.2.2)] :: H) := m.front 1 rfl
     have m : Mem W G_405 w (Itm.box b0 55 [v_356, (.int .i64 y_349.2.2.1), (.int .u64 y_349.2.2.2)] :: it_407 :: H) := m.front 1 rfl
     obtain rfl := Option.some.inj hs_401
     obtain rfl := hq_402 _ rfl
     exact ⟨_, rfl, _, it_407, hl_410, f.weak ⟨rfl, rfl, rfl, rfl, rfl, trivial⟩, m, o_408⟩
   ·rintro a w ⟨l_425, rfl, G_424, it_426, hl_428, f, m, o_427⟩
    have h_357 := RSl.mono (RI.mono _) _ _ _ _ hl_428 h_357
    refine k_region ?_
    refine l_op f rfl rfl rfl (r_move (f.eval rfl)) (fun a f => ?_)
    refine l_op f rfl rfl rfl (r_move (f.eval rfl)) (fun a f => ?_)
    refine l_op f rfl rfl rfl (r_move (f.eval rfl)) (fun a f => ?_)
    obtain ⟨e_442, he_443, hs_219⟩ := bind_some hs_219
    refine l_own_at 1 m o_427 rfl T31 f rfl rfl rfl he_443 (fun p_444 a ha_445 f => ?_)
    refine l_own_store 1 m o_427 rfl Tryd.sizeOf2 f rfl rfl ha_445 he_443 rfl rfl rfl (fun it_446 w m o_447 => ?_)
    have m : Mem W G_424 w (Itm.box b0 55 [v_356, (.int .i64 y_349.2.2.1), (.int .u64 y_349.2.2.2)] :: it_446 :: H) := m
    refine l_nil ?_
    refine k_region ?_
    refine l_op f rfl rfl rfl (r_move (f.eval rfl)) (fun a f => ?_)
    refine l_op f rfl rfl rfl (r_int (f.eval rfl) (f.eval rfl) b_add) (fun a f => ?_)
    refine l_op f rfl rfl rfl (r_assign (f.eval rfl)) (fun a f => ?_)
    refine l_nil ?_
    have m : Mem W G_424 w (it_446 :: Itm.box b0 55 [v_356, (.int .i64 y_349.2.2.1), (.int .u64 y_349.2.2.2)] :: H) := m.front 1 rfl
    have m : Mem W G_424 w (Itm.box b0 55 [v_356, (.int .i64 y_349.2.2.1), (.int .u64 y_349.2.2.2)] :: it_446 :: H) := m.front 1 rfl
    obtain rfl := Option.some.inj hs_219
    exact ⟨_, rfl, _, _, _, _, _, rfl, _, v_365, it_446, v_356, (GLe.trans hl_235 (GLe.trans hl_352 hl_428)), f.weak ⟨rfl, rfl, rfl, rfl, trivial⟩, m, o_447, h_357⟩
  ·refine k_false f rfl hc_348 ?_
   refine k_exit rfl ?_
   have m : Mem W G_223 w (it_226 :: Itm.box b0 55 [v_231, (.int .i64 x_233), (.int .u64 x_234)] :: H) := m.front 1 rfl
   have m : Mem W G_223 w (Itm.box b0 55 [v_231, (.int .i64 x_233), (.int .u64 x_234)] :: it_226 :: H) := m.front 1 rfl
   obtain rfl := Option.some.inj hs_219
   obtain rfl := hq_220 _ rfl
   exact ⟨_, _, _, _, rfl, _, v_225, it_226, v_231, hl_235, f.weak ⟨rfl, trivial⟩, m, o_227, h_232⟩
 ·rintro a w ⟨l_337, l_342, x_345, x_346, rfl, G_336, v_338, it_339, v_343, hl_347, f, m, o_340, h_344⟩
  refine k_seq ?_
  refine k_region ?_
  refine l_op f rfl rfl rfl (r_move (f.eval rfl)) (fun a f => ?_)
  refine l_op f rfl rfl rfl (r_assign (f.eval rfl)) (fun a f => ?_)
  refine l_nil ?_
  refine k_ret ?_
  have m : Mem W G_336 w (it_339 :: Itm.box b0 55 [v_343, (.int .i64 x_345), (.int .u64 x_346)] :: H) := m.front 1 rfl
  obtain rfl := Option.some.inj hd
  exact ⟨[v_338], ⟨f.get _ _ rfl, trivial⟩, f.defers, _, [it_339, Itm.box b0 55 [v_343, (.int .i64 x_345), (.int .u64 x_346)]], hl_347, m, _, _, _, rfl, rfl, o_340, h_344⟩

theorem Wk.impl_firstOf {W w : World} {G : GH} {H : List Itm} {x0 : Int} (m : Mem W G w (H))  {y : Int} (hd : D.impl_firstOf x0 = some y) :
  Calls Tryd.prog 117 #[(.int .i64 x0)] w (Res W G H (fun _ Ho v => Ho = [] ∧ v = (.int .u32 y))) := by
 refine calls_b (args := [(.int .i64 x0)]) (N := 6) [.tmp 2] Tryd.func117 rfl rfl (Nat.le_of_ble_eq_true rfl) rfl (fun a f => ?_)
 unfold D.impl_firstOf at hd
 refine k_seq ?_
 refine k_region ?_
 refine l_op f rfl rfl rfl (r_assign (f.eval rfl)) (fun a f => ?_)
 refine l_nil ?_
 refine k_seq ?_
 refine k_region ?_
 refine l_op f rfl rfl rfl (r_move (f.eval rfl)) (fun a f => ?_)
 obtain ⟨hn_1, hd⟩ := cond_none hd
 refine l_op f rfl rfl rfl (r_shl (f.eval rfl) (f.eval rfl) hn_1) (fun a f => ?_)
 refine l_op f rfl rfl rfl (r_int (f.eval rfl) (f.eval rfl) b_sub) (fun a f => ?_)
 refine l_op f rfl rfl rfl (r_assign (f.eval rfl)) (fun a f => ?_)
 refine l_nil ?_
 refine k_ret ?_
 obtain rfl := Option.some.inj hd
 exact ⟨[(.int .u32 (IntKind.u32.wrap ((ishl .u32 1 x0) - 1)))], ⟨f.get _ _ rfl, trivial⟩, f.defers, _, [], (GLe.refl _), m, rfl, rfl⟩

theorem Wk.impl_nets_all {W w : World} {G : GH} {H : List Itm} {v0 : Value} {x0 : (List Int)} (m : Mem W G w (H)) (h0 : RSl (RI .u32) G v0 x0) {y : Int} (hd : D.impl_nets_all x0 = some y) :
  Calls Tryd.prog 84 #[v0] w (Res W G H (fun _ Ho v => Ho = [] ∧ v = (.int .u32 y))) := by
 refine calls_b (args := [v0]) (N := 6) [.tmp 2] Tryd.func84 rfl rfl (Nat.le_of_ble_eq_true rfl) rfl (fun a f => ?_)
 unfold D.impl_nets_all at hd
 refine k_seq ?_
 refine k_region ?_
 refine l_op f rfl rfl rfl (r_assign (f.eval rfl)) (fun a f => ?_)
 refine l_nil ?_
 refine k_seq ?_
 refine k_region ?_
 refine l_op f rfl rfl rfl (r_move (f.eval rfl)) (fun a f => ?_)
 refine l_len Tryd.underlying61 f rfl rfl h0 (fun a f => ?_)
 obtain ⟨y_1, hy_2, hd⟩ := bind_some hd
 refine l_res f rfl rfl Tryd.call117 (Wk.impl_firstOf m  hy_2) (fun v_6 G_3 Ho_7 w hl_4 m hQ_5 a f => ?_)
 obtain ⟨rfl, rfl⟩ := hQ_5
 have h0 := RSl.mono (RI.mono _) _ _ _ _ hl_4 h0
 have m : Mem W G_3 w (H) := m
 refine l_op f rfl rfl rfl (r_assign (f.eval rfl)) (fun a f => ?_)
 refine l_nil ?_
 refine k_ret ?_
 obtain rfl := Option.some.inj hd
 exact ⟨[(.int .u32 y_1)], ⟨f.get _ _ rfl, trivial⟩, f.defers, _, [], hl_4, m, rfl, rfl⟩

theorem Wk.impl_elimination {W w : World} {G : GH} {H : List Itm} {v0 : Value} {v1 : Value} {x0 : (List Int)} {x1 : (List Int)} (hW : TabW W) (m : Mem W G w (H)) (h0 : RSl (RI .u32) G v0 x0) (h1 : RSl (RI .i64) G v1 x1) {y : ((List Int)) × ((List Int))} (hd : D.impl_elimination x0 x1 = some y) :
  Calls Tryd.prog 92 #[v0, v1] w (Res W G H (fun G' Ho v => ∃ r0 : Value, ∃ i0 : Itm, ∃ r2 : Value, ∃ i2 : Itm, Ho = [i0, i2] ∧ v = .tuple #[r0, r2] ∧ Ow (RI .u32) 66 G' i0 r0 y.1 ∧ Ow (RI .u32) 66 G' i2 r2 y.2)) := by
 refine calls_b (args := [v0, v1]) (N := 67) [.tmp 4, .tmp 5] Tryd.func92 rfl rfl (Nat.le_of_ble_eq_true rfl) rfl (fun a f => ?_)
 unfold D.impl_elimination at hd
 refine k_seq ?_
 refine k_region ?_
 refine l_op f rfl rfl rfl (r_assign (f.eval rfl)) (fun a f => ?_)
 refine l_op f rfl rfl rfl (r_assign (f.eval rfl)) (fun a f => ?_)
 refine l_nil ?_
 refine k_seq ?_
 obtain ⟨j_31, hj_32, hd⟩ := bind_some hd
 refine k_cut (fun a w => ∃ l_34 : List Int, ∃ l_39 : List Int, ∃ x_44 : Int, (l_34, l_39, x_44) = j_31 ∧ ∃ (G_33 : GH) (v_35 : Value) (it_36 : Itm) (v_40 : Value) (it_41 : Itm), GLe G G_33 ∧ Fr a 67 [(1, v1), (6, v_35), (7, v_40), (8, (.int .u32 x_44))] ∧ Mem W G_33 w (it_36 :: it_41 :: H) ∧ Ow (RI .u32) 66 G_33 it_36 v_35 l_34 ∧ Ow (RI .u32) 66 G_33 it_41 v_40 l_39) ?_ ?_
 ·refine k_draw 9 Follows (by kernel_rfl) m ?_
  refine q_op (i := 1) (listed' := #[false, true, false, false, false, false, false, false, false, false, false]) 9 rfl (by kernel_rfl) rfl f rfl rfl rfl (fun _ _ _ _ _ => r_move (f.eval rfl)) (fun a f => ?_)
  refine q_op (i := 3) (listed' := #[false, true, false, true, false, false, false, false, false, false, false]) 9 rfl (by kernel_rfl) rfl f rfl rfl rfl (fun _ _ _ _ _ => r_move (f.eval rfl)) (fun a f => ?_)
  refine q_len (i := 4) (listed' := #[false, true, false, true, true, false, false, false, false, false, false]) 9 Tryd.underlying61 h0 rfl (by kernel_rfl) rfl f rfl rfl rfl (fun a f => ?_)
  refine q_op (i := 6) (listed' := #[false, true, false, true, true, false, true, false, false, false, false]) 9 rfl (by kernel_rfl) rfl f rfl rfl rfl (fun _ _ _ _ _ => r_move (f.eval rfl)) (fun a f => ?_)
  refine q_two (i := 0) (j := 5) (l1 := #[true, true, false, true, true, false, true, false, false, false, false]) (l2 := #[false, true, false, true, true, true, true, false, false, false, false]) rfl rfl (by kernel_rfl) rfl rfl ?_ ?_
  ·intro G_46 w hl_47 m K_48 K_48
   have h0 := RSl.mono (RI.mono _) _ _ _ _ hl_47 h0
   have h1 := RSl.mono (RI.mono _) _ _ _ _ hl_47 h1
   have m : Mem W G_46 w (H) := m
   refine l_slit (R := (RI .u32)) (xs := ([] : List Int)) (RI.one _) m T61 f rfl rfl rfl (by decide) (All2.nil _) (fun it_49 v_50 w a m o_51 f => ?_)
   refine l_nil ?_
   refine K_48 G_46 [it_49] _ _ (GLe.refl _) m ?_
   refine q_two (i := 2) (j := 5) (l1 := #[true, true, true, true, true, false, true, false, false, false, false]) (l2 := #[true, true, false, true, true, true, true, false, false, false, false]) rfl rfl (by kernel_rfl) rfl rfl ?_ ?_
   ·intro G_53 w hl_54 m K_55 K_55
    have h0 := RSl.mono (RI.mono _) _ _ _ _ hl_54 h0
    have h1 := RSl.mono (RI.mono _) _ _ _ _ hl_54 h1
    have o_51 := Ow.mono (RI.mono _) hl_54 o_51
    have m : Mem W G_53 w (it_49 :: H) := m
    obtain ⟨l_56, hx_57, hj_32⟩ := bind_some hj_32
    refine l_append (RI.one _) 0 m o_51 rfl T61 rfl (by decide) f rfl rfl rfl (h0.src m) hx_57 (fun it_58 v_59 w a m o_60 f => ?_)
    have m : Mem W G_53 w (it_58 :: H) := m
    refine l_nil ?_
    refine K_55 G_53 [it_58] _ _ (GLe.refl _) m ?_
    obtain ⟨y_62, hy_63, hj_32⟩ := bind_some hj_32
    refine q_call (i := 7) (listed' := #[true, true, true, true, true, false, true, true, false, false, false]) 9 rfl (by kernel_rfl) rfl f rfl rfl rfl Tryd.call84 (fun _ _ w hG_64 m => Wk.impl_nets_all m (RSl.mono (RI.mono _) _ _ _ _ hG_64 h0) hy_63) (fun a f => ?_)
    refine q_op (i := 8) (listed' := #[true, true, true, true, true, false, true, true, true, false, false]) 9 rfl (by kernel_rfl) rfl f rfl rfl rfl (fun _ _ _ _ _ => r_assign (f.eval rfl)) (fun a f => ?_)
    refine q_one (i := 5) (listed' := #[true, true, true, true, true, true, true, true, true, false, false]) rfl (by kernel_rfl) rfl (fun G_65 w hl_66 m K_67 K_67 => ?_)
    have h0 := RSl.mono (RI.mono _) _ _ _ _ hl_66 h0
    have h1 := RSl.mono (RI.mono _) _ _ _ _ hl_66 h1
    have o_60 := Ow.mono (RI.mono _) hl_66 o_60
    have m : Mem W G_65 w (it_58 :: H) := m
    obtain ⟨l_68, hx_69, hj_32⟩ := bind_some hj_32
    refine l_make (R := (RI .u32)) m T61 rfl (by decide) rfl f rfl rfl rfl hx_69 (fun it_70 v_71 w a m o_72 f => ?_)
    refine l_nil ?_
    refine K_67 G_65 [it_70, it_58] _ _ (GLe.refl _) m ?_
    refine q_end (fun G_74 w hl_75 m => ?_)
    have h0 := RSl.mono (RI.mono _) _ _ _ _ hl_75 h0
    have h1 := RSl.mono (RI.mono _) _ _ _ _ hl_75 h1
    have o_72 := Ow.mono (RI.mono _) hl_75 o_72
    have o_60 := Ow.mono (RI.mono _) hl_75 o_60
    have m : Mem W G_74 w (it_70 :: it_58 :: H) := m
    refine l_op f rfl rfl rfl (r_assign (f.eval rfl)) (fun a f => ?_)
    refine l_op f rfl rfl rfl (r_assign (f.eval rfl)) (fun a f => ?_)
    refine l_nil ?_
    have m : Mem W G_74 w (it_58 :: it_70 :: H) := m.front 1 rfl
    obtain rfl := Option.some.inj hj_32
    exact ⟨_, _, _, rfl, _, v_59, it_58, v_71, it_70, (GLe.trans hl_47 (GLe.trans hl_54 (GLe.trans hl_66 hl_75))), f.weak ⟨rfl, rfl, rfl, rfl, trivial⟩, m, o_60, o_72⟩
   ·intro G_65 w hl_66 m K_67 K_67
    obtain ⟨l_56, hx_57, hj_32⟩ := bind_some hj_32
    obtain ⟨y_62, hy_63, hj_32⟩ := bind_some hj_32
    obtain ⟨l_68, hx_69, hj_32⟩ := bind_some hj_32
    have h0 := RSl.mono (RI.mono _) _ _ _ _ hl_66 h0
    have h1 := RSl.mono (RI.mono _) _ _ _ _ hl_66 h1
    have o_51 := Ow.mono (RI.mono _) hl_66 o_51
    have m : Mem W G_65 w (it_49 :: H) := m
    refine l_make (R := (RI .u32)) m T61 rfl (by decide) rfl f rfl rfl rfl hx_69 (fun it_70 v_71 w a m o_72 f => ?_)
    refine l_nil ?_
    refine K_67 G_65 [it_70, it_49] _ _ (GLe.refl _) m ?_
    refine q_one (i := 2) (listed' := #[true, true, true, true, true, true, true, false, false, false, false]) rfl (by kernel_rfl) rfl (fun G_53 w hl_54 m K_55 K_55 => ?_)
    have h0 := RSl.mono (RI.mono _) _ _ _ _ hl_54 h0
    have h1 := RSl.mono (RI.mono _) _ _ _ _ hl_54 h1
    have o_72 := Ow.mono (RI.mono _) hl_54 o_72
    have o_51 := Ow.mono (RI.mono _) hl_54 o_51
    have m : Mem W G_53 w (it_70 :: it_49 :: H) := m
    refine l_append (RI.one _) 1 m o_51 rfl T61 rfl (by decide) f rfl rfl rfl (h0.src m) hx_57 (fun it_58 v_59 w a m o_60 f => ?_)
    have m : Mem W G_53 w (it_70 :: it_58 :: H) := m
    refine l_nil ?_
    refine K_55 G_53 [it_70, it_58] _ _ (GLe.refl _) m ?_
    refine q_call (i := 7) (listed' := #[true, true, true, true, true, true, true, true, false, false, false]) 9 rfl (by kernel_rfl) rfl f rfl rfl rfl Tryd.call84 (fun _ _ w hG_64 m => Wk.impl_nets_all m (RSl.mono (RI.mono _) _ _ _ _ hG_64 h0) hy_63) (fun a f => ?_)
    refine q_op (i := 8) (listed' := #[true, true, true, true, true, true, true, true, true, false, false]) 9 rfl (by kernel_rfl) rfl f rfl rfl rfl (fun _ _ _ _ _ => r_assign (f.eval rfl)) (fun a f => ?_)
    refine q_end (fun G_74 w hl_75 m => ?_)
    have h0 := RSl.mono (RI.mono _) _ _ _ _ hl_75 h0
    have h1 := RSl.mono (RI.mono _) _ _ _ _ hl_75 h1
    have o_72 := Ow.mono (RI.mono _) hl_75 o_72
    have o_60 := Ow.mono (RI.mono _) hl_75 o_60
    have m : Mem W G_74 w (it_70 :: it_58 :: H) := m
    refine l_op f rfl rfl rfl (r_assign (f.eval rfl)) (fun a f => ?_)
    refine l_op f rfl rfl rfl (r_assign (f.eval rfl)) (fun a f => ?_)
    refine l_nil ?_
    have m : Mem W G_74 w (it_58 :: it_70 :: H) := m.front 1 rfl
    obtain rfl := Option.some.inj hj_32
    exact ⟨_, _, _, rfl, _, v_59, it_58, v_71, it_70, (GLe.trans hl_47 (GLe.trans hl_66 (GLe.trans hl_54 hl_75))), f.weak ⟨rfl, rfl, rfl, rfl, trivial⟩, m, o_60, o_72⟩
  ·intro G_65 w hl_66 m K_67 K_67
   obtain ⟨l_56, hx_57, hj_32⟩ := bind_some hj_32
   obtain ⟨y_62, hy_63, hj_32⟩ := bind_some hj_32
   obtain ⟨l_68, hx_69, hj_32⟩ := bind_some hj_32
   have h0 := RSl.mono (RI.mono _) _ _ _ _ hl_66 h0
   have h1 := RSl.mono (RI.mono _) _ _ _ _ hl_66 h1
   have m : Mem W G_65 w (H) := m
   refine l_make (R := (RI .u32)) m T61 rfl (by decide) rfl f rfl rfl rfl hx_69 (fun it_70 v_71 w a m o_72 f => ?_)
   refine l_nil ?_
   refine K_67 G_65 [it_70] _ _ (GLe.refl _) m ?_
   refine q_one (i := 0) (listed' := #[true, true, false, true, true, true, true, false, false, false, false]) rfl (by kernel_rfl) rfl (fun G_46 w hl_47 m K_48 K_48 => ?_)
   have h0 := RSl.mono (RI.mono _) _ _ _ _ hl_47 h0
   have h1 := RSl.mono (RI.mono _) _ _ _ _ hl_47 h1
   have o_72 := Ow.mono (RI.mono _) hl_47 o_72
   have m : Mem W G_46 w (it_70 :: H) := m
   refine l_slit (R := (RI .u32)) (xs := ([] : List Int)) (RI.one _) m T61 f rfl rfl rfl (by decide) (All2.nil _) (fun it_49 v_50 w a m o_51 f => ?_)
   refine l_nil ?_
   refine K_48 G_46 [it_49, it_70] _ _ (GLe.refl _) m ?_
   refine q_one (i := 2) (listed' := #[true, true, true, true, true, true, true, false, false, false, false]) rfl (by kernel_rfl) rfl (fun G_53 w hl_54 m K_55 K_55 => ?_)
   have h0 := RSl.mono (RI.mono _) _ _ _ _ hl_54 h0
   have h1 := RSl.mono (RI.mono _) _ _ _ _ hl_54 h1
   have o_51 := Ow.mono (RI.mono _) hl_54 o_51
   have o_72 := Ow.mono (RI.mono _) hl_54 o_72
   have m : Mem W G_53 w (it_49 :: it_70 :: H) := m
   refine l_append (RI.one _) 0 m o_51 rfl T61 rfl (by decide) f rfl rfl rfl (h0.src m) hx_57 (fun it_58 v_59 w a m o_60 f => ?_)
   have m : Mem W G_53 w (it_58 :: it_70 :: H) := m
   refine l_nil ?_
   refine K_55 G_53 [it_58, it_70] _ _ (GLe.refl _) m ?_
   refine q_call (i := 7) (listed' := #[true, true, true, true, true, true, true, true, false, false, false]) 9 rfl (by kernel_rfl) rfl f rfl rfl rfl Tryd.call84 (fun _ _ w hG_64 m => Wk.impl_nets_all m (RSl.mono (RI.mono _) _ _ _ _ hG_64 h0) hy_63) (fun a f => ?_)
   refine q_op (i := 8) (listed' := #[true, true, true, true, true, true, true, true, true, false, false]) 9 rfl (by kernel_rfl) rfl f rfl rfl rfl (fun _ _ _ _ _ => r_assign (f.eval rfl)) (fun a f => ?_)
   refine q_end (fun G_74 w hl_75 m => ?_)
   have h0 := RSl.mono (RI.mono _) _ _ _ _ hl_75 h0
   have h1 := RSl.mono (RI.mono _) _ _ _ _ hl_75 h1
   have o_60 := Ow.mono (RI.mono _) hl_75 o_60
   have o_72 := Ow.mono (RI.mono _) hl_75 o_72
   have m : Mem W G_74 w (it_58 :: it_70 :: H) := m
   refine l_op f rfl rfl rfl (r_assign (f.eval rfl)) (fun a f => ?_)
   refine l_op f rfl rfl rfl (r_assign (f.eval rfl)) (fun a f => ?_)
   refine l_nil ?_
   have m : Mem W G_74 w (it_70 :: it_58 :: H) := m.front 1 rfl
   have m : Mem W G_74 w (it_58 :: it_70 :: H) := m.front 1 rfl
   obtain rfl := Option.some.inj hj_32
   exact ⟨_, _, _, rfl, _, v_59, it_58, v_71, it_70, (GLe.trans hl_66 (GLe.trans hl_47 (GLe.trans hl_54 hl_75))), f.weak ⟨rfl, rfl, rfl, rfl, trivial⟩, m, o_60, o_72⟩
 ·rintro a w ⟨l_34, l_39, x_44, rfl, G_33, v_35, it_36, v_40, it_41, hl_45, f, m, o_37, o_42⟩
  have h1 := RSl.mono (RI.mono _) _ _ _ _ hl_45 h1
  refine k_seq ?_
  refine k_seq ?_
  refine k_region ?_
  refine l_op f rfl rfl rfl (r_move (f.eval rfl)) (fun a f => ?_)
  refine l_len Tryd.underlying63 f rfl rfl h1 (fun a f => ?_)
  refine l_op f rfl rfl rfl (r_move (f.eval rfl)) (fun a f => ?_)
  refine l_nil ?_
  obtain ⟨q_455, hl_456, hd⟩ := bind_some hd
  refine k_cut (fun a w => ∃ l_657 : List Int, ∃ l_660 : List Int, (l_657, l_660) = q_455 ∧ ∃ (G_656 : GH) (it_658 : Itm) (it_661 : Itm), GLe G_33 G_656 ∧ Fr a 67 [(6, v_35), (7, v_40)] ∧ Mem W G_656 w (it_658 :: it_661 :: H) ∧ Ow (RI .u32) 66 G_656 it_658 v_35 l_657 ∧ Ow (RI .u32) 66 G_656 it_661 v_40 l_660) ?_ ?_
  ·refine k_block ?_
   have m : Mem W G_33 w (it_41 :: it_36 :: H) := m.front 1 rfl
   have m : Mem W G_33 w (it_36 :: it_41 :: H) := m.front 1 rfl
   refine k_loop (fun s_459 a w => ∃ l_462 : List Int, ∃ l_465 : List Int, ∃ x_468 : Int, ∃ x_469 : Int, (l_462, l_465, x_468, x_469) = s_459 ∧ ∃ (G_461 : GH) (it_463 : Itm) (it_466 : Itm), GLe G_33 G_461 ∧ Fr a 67 [(6, v_35), (7, v_40), (8, (.int .u32 x_468)), (21, v1), (22, (.int .i64 (x1.length : Int))), (23, (.int .i64 x_469))] ∧ Mem W G_461 w (it_463 :: it_466 :: H) ∧ Ow (RI .u32) 66 G_461 it_463 v_35 l_462 ∧ Ow (RI .u32) 66 G_461 it_466 v_40 l_465) hl_456 ⟨_, _, _, _, rfl, _, it_36, it_41, (GLe.refl _), f.weak ⟨rfl, rfl, rfl, rfl, rfl, rfl, trivial⟩, m, o_37, o_42⟩ ?_
   clear hl_456 f m
   rintro s_459 o_460 hs_457 hq_458 a w ⟨l_462, l_465, x_468, x_469, rfl, G_461, it_463, it_466, hl_470, f, m, o_464, o_467⟩
   have h1 := RSl.mono (RI.mono _) _ _ _ _ hl_470 h1
   refine k_seq ?_
   refine k_region ?_
   refine l_op f rfl rfl rfl (r_int (f.eval rfl) (f.eval rfl) b_lss) (fun a f => ?_)
   refine l_nil ?_
   refine k_seq ?_
   rcases cond_some hs_457 with ⟨hc_664, hs_457⟩ | ⟨hc_664, hs_457⟩
   ·refine k_true f rfl hc_664 ?_
    refine k_skip ?_
    refine k_seq ?_
    refine k_block ?_
    refine k_seq ?_
    refine k_region ?_
    obtain ⟨e_665, he_666, hs_457⟩ := bind_some hs_457
    refine l_at T63 f rfl rfl rfl h1 he_666 (fun p_667 c_668 a g_669 h_670 f => ?_)
    subst h_670
    refine l_loadAt m Pl3 f rfl rfl g_669 (fun a f => ?_)
    refine l_op f rfl rfl rfl (r_assign (f.eval rfl)) (fun a f => ?_)
    refine l_nil ?_
    refine k_seq ?_
    refine k_region ?_
    refine l_op f rfl rfl rfl (r_move (f.eval rfl)) (fun a f => ?_)
    refine l_op f rfl rfl rfl (r_move (f.eval rfl)) (fun a f => ?_)
    obtain ⟨y_671, hy_672, hs_457⟩ := bind_some hs_457
    refine l_res f rfl rfl Tryd.call48 (Wk.impl_one m  hy_672) (fun v_676 G_673 Ho_677 w hl_674 m hQ_675 a f => ?_)
    obtain ⟨rfl, rfl⟩ := hQ_675
    have h1 := RSl.mono (RI.mono _) _ _ _ _ hl_674 h1
    have o_464 := Ow.mono (RI.mono _) hl_674 o_464
    have o_467 := Ow.mono (RI.mono _) hl_674 o_467
    have m : Mem W G_673 w (it_463 :: it_466 :: H) := m
    refine l_op f rfl rfl rfl (r_int (f.eval rfl) (f.eval rfl) b_andNot) (fun a f => ?_)
    refine l_op f rfl rfl rfl (r_assign (f.eval rfl)) (fun a f => ?_)
    refine l_nil ?_
    refine k_seq ?_
    refine k_region ?_
    refine l_op f rfl rfl rfl (r_move (f.eval rfl)) (fun a f => ?_)
    refine l_op f rfl rfl rfl (r_move (f.eval rfl)) (fun a f => ?_)
    refine l_op f rfl rfl rfl (r_move (f.eval rfl)) (fun a f => ?_)
    refine l_op f rfl rfl rfl (r_move (f.eval rfl)) (fun a f => ?_)
    obtain ⟨e_678, he_679, hs_457⟩ := bind_some hs_457
    refine l_own_at 0 m o_464 rfl T61 f rfl rfl rfl he_679 (fun p_680 a ha_681 f => ?_)
    refine l_own_load 0 m o_464 rfl Pl66 f rfl rfl ha_681 he_679 (fun c_682 a h_683 f => ?_)
    subst h_683
    refine l_op f rfl rfl rfl (r_move (f.eval rfl)) (fun a f => ?_)
    refine l_op f rfl rfl rfl (r_int (f.eval rfl) (f.eval rfl) b_and) (fun a f => ?_)
    obtain ⟨e_684, he_685, hs_457⟩ := bind_some hs_457
    refine l_own_at 1 m o_467 rfl T61 f rfl rfl rfl he_685 (fun p_686 a ha_687 f => ?_)
    refine l_own_store 1 m o_467 rfl Tryd.sizeOf66 f rfl rfl ha_687 he_685 rfl rfl rfl (fun it_688 w m o_689 => ?_)
    have m : Mem W G_673 w (it_463 :: it_688 :: H) := m
    refine l_nil ?_
    refine k_seq ?_
    refine k_region ?_
    refine l_op f rfl rfl rfl (r_move (f.eval rfl)) (fun a f => ?_)
    refine l_op f rfl rfl rfl (r_move (f.eval rfl)) (fun a f => ?_)
    obtain ⟨e_690, he_691, hs_457⟩ := bind_some hs_457
    refine l_own_at 1 m o_689 rfl T61 f rfl rfl rfl he_691 (fun p_692 a ha_693 f => ?_)
    refine l_own_load 1 m o_689 rfl Pl66 f rfl rfl ha_693 he_691 (fun c_694 a h_695 f => ?_)
    subst h_695
    obtain ⟨y_696, hy_697, hs_457⟩ := bind_some hs_457
    refine l_res f rfl rfl Tryd.call62 (Wk.impl_vset_list hW m  hy_697) (fun v_701 G_698 Ho_702 w hl_699 m hQ_700 a f => ?_)
    obtain ⟨v_703, it_704, rfl, rfl, o_705⟩ := hQ_700
    have h1 := RSl.mono (RI.mono _) _ _ _ _ hl_699 h1
    have o_464 := Ow.mono (RI.mono _) hl_699 o_464
    have o_689 := Ow.mono (RI.mono _) hl_699 o_689
    have m : Mem W G_698 w (it_704 :: it_463 :: it_688 :: H) := m
    refine l_own_len 0 m o_705 rfl Tryd.underlying63 f rfl rfl (fun a f => ?_)
    refine l_op f rfl rfl rfl (r_move (f.eval rfl)) (fun a f => ?_)
    refine l_nil ?_
    obtain ⟨q_772, hl_773, hs_457⟩ := bind_some hs_457
    refine k_cut (fun a w => ∃ l_815 : List Int, l_815 = q_772 ∧ ∃ (G_814 : GH) (it_816 : Itm), GLe G_698 G_814 ∧ Fr a 67 [(6, v_35), (7, v_40), (8, (.int .u32 (iandNot .u32 x_468 y_671))), (21, v1), (22, (.int .i64 (x1.length : Int))), (23, (.int .i64 x_469))] ∧ Mem W G_814 w (it_816 :: it_688 :: H) ∧ Ow (RI .u32) 66 G_814 it_816 v_35 l_815) ?_ ?_
    ·refine k_block ?_
     have m : Mem W G_698 w (it_688 :: it_704 :: it_463 :: H) := m.front 2 rfl
     have m : Mem W G_698 w (it_463 :: it_688 :: it_704 :: H) := m.front 2 rfl
     refine k_loop (fun s_776 a w => ∃ l_779 : List Int, ∃ x_782 : Int, (l_779, x_782) = s_776 ∧ ∃ (G_778 : GH) (it_780 : Itm), GLe G_698 G_778 ∧ Fr a 67 [(6, v_35), (7, v_40), (8, (.int .u32 (iandNot .u32 x_468 y_671))), (10, (.int .i64 e_665)), (21, v1), (22, (.int .i64 (x1.length : Int))), (23, (.int .i64 x_469)), (44, v_703), (45, (.int .i64 (y_696.length : Int))), (46, (.int .i64 x_782))] ∧ Mem W G_778 w (it_780 :: it_688 :: it_704 :: H) ∧ Ow (RI .u32) 66 G_778 it_780 v_35 l_779) hl_773 ⟨_, _, rfl, _, it_463, (GLe.refl _), f.weak ⟨rfl, rfl, rfl, rfl, rfl, rfl, rfl, rfl, rfl, rfl, trivial⟩, m, o_464⟩ ?_
     clear hl_773 f m
     rintro s_776 o_777 hs_774 hq_775 a w ⟨l_779, x_782, rfl, G_778, it_780, hl_783, f, m, o_781⟩
     have h1 := RSl.mono (RI.mono _) _ _ _ _ hl_783 h1
     have o_689 := Ow.mono (RI.mono _) hl_783 o_689
     have o_705 := Ow.mono (RI.mono _) hl_783 o_705
     refine k_seq ?_
     refine k_region ?_
     refine l_op f rfl rfl rfl (r_int (f.eval rfl) (f.eval rfl) b_lss) (fun a f => ?_)
     refine l_nil ?_
     refine k_seq ?_
     rcases cond_some hs_774 with ⟨hc_819, hs_774⟩ | ⟨hc_819, hs_774⟩
     ·refine k_true f rfl hc_819 ?_
      refine k_skip ?_
      refine k_seq ?_
      refine k_block ?_
      refine k_seq ?_
      refine k_region ?_
      obtain ⟨e_820, he_821, hs_774⟩ := bind_some hs_774
      refine l_own_at 2 m o_705 rfl T63 f rfl rfl rfl he_821 (fun p_822 a ha_823 f => ?_)
      refine l_own_load 2 m o_705 rfl Pl3 f rfl rfl ha_823 he_821 (fun c_824 a h_825 f => ?_)
      subst h_825
      refine l_op f rfl rfl rfl (r_assign (f.eval rfl)) (fun a f => ?_)
      refine l_nil ?_
      refine k_draw 13 Follows (by kernel_rfl) m ?_
      refine q_op (i := 0) (listed' := #[true, false, false, false, false, false, false, false, false, false, false, false, false, false]) 13 rfl (by kernel_rfl) rfl f rfl rfl rfl (fun _ _ _ _ _ => r_move (f.eval rfl)) (fun a f => ?_)
      refine q_op (i := 1) (listed' := #[true, true, false, false, false, false, false, false, false, false, false, false, false, false]) 13 rfl (by kernel_rfl) rfl f rfl rfl rfl (fun _ _ _ _ _ => r_move (f.eval rfl)) (fun a f => ?_)
      obtain ⟨e_826, he_827, hs_774⟩ := bind_some hs_774
      refine q_own_at (i := 2) (listed' := #[true, true, true, false, false, false, false, false, false, false, false, false, false, false]) 13 0 m o_781 rfl T61 he_827 rfl (by kernel_rfl) rfl f rfl rfl rfl rfl (fun p_828 a ha_829 f => ?_)
      refine q_own_load (i := 3) (listed' := #[true, true, true, true, false, false, false, false, false, false, false, false, false, false]) 13 0 o_781 rfl Pl66 ha_829 he_827 rfl (by kernel_rfl) rfl f rfl rfl rfl (fun c_830 a h_831 f => ?_)
      subst h_831
      refine q_op (i := 4) (listed' := #[true, true, true, true, true, false, false, false, false, false, false, false, false, false]) 13 rfl (by kernel_rfl) rfl f rfl rfl rfl (fun _ _ _ _ _ => r_move (f.eval rfl)) (fun a f => ?_)
      refine q_op (i := 5) (listed' := #[true, true, true, true, true, true, false, false, false, false, false, false, false, false]) 13 rfl (by kernel_rfl) rfl f rfl rfl rfl (fun _ _ _ _ _ => r_move (f.eval rfl)) (fun a f => ?_)
      obtain ⟨e_832, he_833, hs_774⟩ := bind_some hs_774
      refine q_own_at (i := 6) (listed' := #[true, true, true, true, true, true, true, false, false, false, false, false, false, false]) 13 1 m o_689 rfl T61 he_833 rfl (by kernel_rfl) rfl f rfl rfl rfl rfl (fun p_834 a ha_835 f => ?_)
      refine q_own_load (i := 7) (listed' := #[true, true, true, true, true, true, true, true, false, false, false, false, false, false]) 13 1 o_689 rfl Pl66 ha_835 he_833 rfl (by kernel_rfl) rfl f rfl rfl rfl (fun c_836 a h_837 f => ?_)
      subst h_837
      refine q_op (i := 8) (listed' := #[true, true, true, true, true, true, true, true, true, false, false, false, false, false]) 13 rfl (by kernel_rfl) rfl f rfl rfl rfl (fun _ _ _ _ _ => r_move (f.eval rfl)) (fun a f => ?_)
      obtain ⟨y_838, hy_839, hs_774⟩ := bind_some hs_774
      refine q_call (i := 9) (listed' := #[true, true, true, true, true, true, true, true, true, true, false, false, false, false]) 13 rfl (by kernel_rfl) rfl f rfl rfl rfl Tryd.call48 (fun _ _ w hG_840 m => Wk.impl_one m  hy_839) (fun a f => ?_)
      refine q_op (i := 10) (listed' := #[true, true, true, true, true, true, true, true, true, true, true, false, false, false]) 13 rfl (by kernel_rfl) rfl f rfl rfl rfl (fun _ _ _ _ _ => r_int (f.eval rfl) (f.eval rfl) b_andNot) (fun a f => ?_)
      refine q_op (i := 11) (listed' := #[true, true, true, true, true, true, true, true, true, true, true, true, false, false]) 13 rfl (by kernel_rfl) rfl f rfl rfl rfl (fun _ _ _ _ _ => r_int (f.eval rfl) (f.eval rfl) b_or) (fun a f => ?_)
      obtain ⟨e_841, he_842, hs_774⟩ := bind_some hs_774
      refine q_own_at (i := 12) (listed' := #[true, true, true, true, true, true, true, true, true, true, true, true, true, false]) 13 0 m o_781 rfl T61 he_842 rfl (by kernel_rfl) rfl f rfl rfl rfl rfl (fun p_843 a ha_844 f => ?_)
      refine q_end (fun G_845 w hl_846 m => ?_)
      have h1 := RSl.mono (RI.mono _) _ _ _ _ hl_846 h1
      have o_781 := Ow.mono (RI.mono _) hl_846 o_781
      have o_689 := Ow.mono (RI.mono _) hl_846 o_689
      have o_705 := Ow.mono (RI.mono _) hl_846 o_705
      have m : Mem W G_845 w (it_780 :: it_688 :: it_704 :: H) := m
      refine l_own_store 0 m o_781 rfl Tryd.sizeOf66 f rfl rfl ha_844 he_842 rfl rfl rfl (fun it_847 w m o_848 => ?_)
      have m : Mem W G_845 w (it_847 :: it_688 :: it_704 :: H) := m
      refine l_nil ?_
      refine k_region ?_
      refine l_op f rfl rfl rfl (r_int (f.eval rfl) (f.eval rfl) b_add) (fun a f => ?_)
      refine l_op f rfl rfl rfl (r_move (f.eval rfl)) (fun a f => ?_)
      refine l_nil ?_
      have m : Mem W G_845 w (it_704 :: it_847 :: it_688 :: H) := m.front 2 rfl
      have m : Mem W G_845 w (it_688 :: it_704 :: it_847 :: H) := m.front 2 rfl
      have m : Mem W G_845 w (it_847 :: it_688 :: it_704 :: H) := m.front 2 rfl
      obtain rfl := Option.some.inj hs_774
      exact ⟨_, rfl, _, _, rfl, _, it_847, (GLe.trans hl_783 hl_846), f.weak ⟨rfl, rfl, rfl, rfl, rfl, rfl, rfl, rfl, rfl, rfl, trivial⟩, m, o_848⟩
     ·refine k_false f rfl hc_819 ?_
      refine k_exit rfl ?_
      have m : Mem W G_778 w (it_688 :: it_780 :: it_704 :: H) := m.front 1 rfl
      have m : Mem W G_778 w (it_780 :: it_688 :: it_704 :: H) := m.front 1 rfl
      have m : Mem W G_778 w (it_780 :: it_688 :: H) := m.eraseAt 2
      obtain rfl := Option.some.inj hs_774
      obtain rfl := hq_775 _ rfl
      exact ⟨_, rfl, _, it_780, hl_783, f.weak ⟨rfl, rfl, rfl, rfl, rfl, rfl, trivial⟩, m, o_781⟩
    ·rintro a w ⟨l_815, rfl, G_814, it_816, hl_818, f, m, o_817⟩
     have h1 := RSl.mono (RI.mono _) _ _ _ _ hl_818 h1
     have o_689 := Ow.mono (RI.mono _) hl_818 o_689
     refine k_region ?_
     refine l_op f rfl rfl rfl (r_int (f.eval rfl) (f.eval rfl) b_add) (fun a f => ?_)
     refine l_op f rfl rfl rfl (r_move (f.eval rfl)) (fun a f => ?_)
     refine l_nil ?_
     have m : Mem W G_814 w (it_688 :: it_816 :: H) := m.front 1 rfl
     have m : Mem W G_814 w (it_816 :: it_688 :: H) := m.front 1 rfl
     obtain rfl := Option.some.inj hs_457
     exact ⟨_, rfl, _, _, _, _, rfl, _, it_816, it_688, (GLe.trans hl_470 (GLe.trans hl_674 (GLe.trans hl_699 hl_818))), f.weak ⟨rfl, rfl, rfl, rfl, rfl, rfl, trivial⟩, m, o_817, o_689⟩
   ·refine k_false f rfl hc_664 ?_
    refine k_exit rfl ?_
    have m : Mem W G_461 w (it_466 :: it_463 :: H) := m.front 1 rfl
    have m : Mem W G_461 w (it_463 :: it_466 :: H) := m.front 1 rfl
    obtain rfl := Option.some.inj hs_457
    obtain rfl := hq_458 _ rfl
    exact ⟨_, _, rfl, _, it_463, it_466, hl_470, f.weak ⟨rfl, rfl, trivial⟩, m, o_464, o_467⟩
  ·rintro a w ⟨l_657, l_660, rfl, G_656, it_658, it_661, hl_663, f, m, o_659, o_662⟩
   refine k_seq ?_
   refine k_region ?_
   refine l_op f rfl rfl rfl (r_move (f.eval rfl)) (fun a f => ?_)
   refine l_op f rfl rfl rfl (r_move (f.eval rfl)) (fun a f => ?_)
   refine l_op f rfl rfl rfl (r_assign (f.eval rfl)) (fun a f => ?_)
   refine l_op f rfl rfl rfl (r_assign (f.eval rfl)) (fun a f => ?_)
   refine l_nil ?_
   refine k_ret ?_
   have m : Mem W G_656 w (it_661 :: it_658 :: H) := m.front 1 rfl
   have m : Mem W G_656 w (it_658 :: it_661 :: H) := m.front 1 rfl
   obtain rfl := Option.some.inj hd
   exact ⟨[v_35, v_40], ⟨f.get _ _ rfl, f.get _ _ rfl, trivial⟩, f.defers, _, [it_658, it_661], (GLe.trans hl_45 hl_663), m, _, _, _, _, rfl, rfl, o_659, o_662⟩

theorem Wk.impl_nets_graph {W w : World} {G : GH} {H : List Itm} {v0 : Value} {x0 : (List Int)} (hW : TabW W) (m : Mem W G w (H)) (h0 : RSl (RI .u32) G v0 x0) {y : ((List (List Int)))} (hd : D.impl_nets_graph x0 = some y) :
  Calls Tryd.prog 78 #[v0] w (Res W G H (fun G' Ho v => ∃ r0 : Value, ∃ i0 : Itm, Ho = [i0] ∧ v = (.agg #[r0]) ∧ Ow (RSl (RI .i64)) 31 G' i0 r0 y)) := by
 refine calls_b (args := [v0]) (N := 22) [.cell 2 29] Tryd.func78 rfl rfl (Nat.le_of_ble_eq_true rfl) rfl (fun a f => ?_)
 unfold D.impl_nets_graph at hd
 refine k_seq ?_
 refine k_region ?_
 refine l_alloc (cs := [(.slice none 0 0)]) Tryd.zeroValue29 m f rfl rfl (fun b_2 w a m f => ?_)
 refine l_nil ?_
 refine k_seq ?_
 refine k_region ?_
 have hb_3 : ∀ w, (Instr.build 29 #[]).run Tryd.prog w = .ok (.agg #[(.slice none 0 0)]) w := by intro w; simp [Instr.build, Instr.fill, cells_int, cells_bool, cells_string, cells_slice, cells_pointer, cells_agg]
 refine l_build f rfl rfl hb_3 (fun a f => ?_)
 refine l_alloc (cs := [(.slice none 0 0)]) Tryd.zeroValue29 m f rfl rfl (fun b_5 w a m f => ?_)
 refine l_boxStore 0 0 (ds := [(.slice none 0 0)]) m Tryd.sizeOf29 f rfl rfl rfl (ones_cons rfl ones_nil) rfl (Nat.le_of_ble_eq_true rfl) rfl (fun w m => ?_)
 have m : Mem W G w (Itm.box b_5 29 [(.slice none 0 0)] :: Itm.box b_2 29 [(.slice none 0 0)] :: H) := m
 refine l_nil ?_
 refine k_seq ?_
 refine k_seq ?_
 refine k_region ?_
 refine l_op f rfl rfl rfl (r_move (f.eval rfl)) (fun a f => ?_)
 refine l_len Tryd.underlying61 f rfl rfl h0 (fun a f => ?_)
 refine l_op f rfl rfl rfl (r_move (f.eval rfl)) (fun a f => ?_)
 refine l_nil ?_
 obtain ⟨it_100, m, o_101⟩ := Ow.nil (RSl (RI .i64)) 31 m
 obtain ⟨q_94, hl_95, hd⟩ := bind_some hd
 refine k_cut (fun a w => ∃ l_151 : List (List Int), l_151 = q_94 ∧ ∃ (G_150 : GH) (v_152 : Value) (it_153 : Itm), GLe G G_150 ∧ Fr a 22 [(2, (.pointer (some ⟨b_2, 0, none⟩))), (3, (.pointer (some ⟨b_5, 0, none⟩)))] ∧ Mem W G_150 w (Itm.box b_2 29 [(.slice none 0 0)] :: Itm.box b_5 29 [v_152] :: it_153 :: H) ∧ Ow (RSl (RI .i64)) 31 G_150 it_153 v_152 l_151) ?_ ?_
 ·refine k_block ?_
  have m : Mem W G w (Itm.box b_5 29 [(.slice none 0 0)] :: it_100 :: Itm.box b_2 29 [(.slice none 0 0)] :: H) := m.front 1 rfl
  have m : Mem W G w (Itm.box b_2 29 [(.slice none 0 0)] :: Itm.box b_5 29 [(.slice none 0 0)] :: it_100 :: H) := m.front 2 rfl
  refine k_loop (fun s_98 a w => ∃ x_104 : Int, ∃ l_105 : List (List Int), (x_104, l_105) = s_98 ∧ ∃ (G_103 : GH) (v_106 : Value) (it_107 : Itm), GLe G G_103 ∧ Fr a 22 [(2, (.pointer (some ⟨b_2, 0, none⟩))), (3, (.pointer (some ⟨b_5, 0, none⟩))), (7, v0), (8, (.int .i64 (x0.length : Int))), (9, (.int .i64 x_104))] ∧ Mem W G_103 w (Itm.box b_2 29 [(.slice none 0 0)] :: Itm.box b_5 29 [v_106] :: it_107 :: H) ∧ Ow (RSl (RI .i64)) 31 G_103 it_107 v_106 l_105) hl_95 ⟨_, _, rfl, _, (.slice none 0 0), it_100, (GLe.refl _), f.weak ⟨rfl, rfl, rfl, rfl, rfl, trivial⟩, m, o_101⟩ ?_
  clear hl_95 f m
  rintro s_98 o_99 hs_96 hq_97 a w ⟨x_104, l_105, rfl, G_103, v_106, it_107, hl_110, f, m, o_108⟩
  have h0 := RSl.mono (RI.mono _) _ _ _ _ hl_110 h0
  refine k_seq ?_
  refine k_region ?_
  refine l_op f rfl rfl rfl (r_int (f.eval rfl) (f.eval rfl) b_lss) (fun a f => ?_)
  refine l_nil ?_
  refine k_seq ?_
  rcases cond_some hs_96 with ⟨hc_157, hs_96⟩ | ⟨hc_157, hs_96⟩
  ·refine k_true f rfl hc_157 ?_
   refine k_skip ?_
   refine k_seq ?_
   refine k_block ?_
   refine k_seq ?_
   refine k_region ?_
   obtain ⟨e_158, he_159, hs_96⟩ := bind_some hs_96
   refine l_at T61 f rfl rfl rfl h0 he_159 (fun p_160 c_161 a g_162 h_163 f => ?_)
   subst h_163
   refine l_loadAt m Pl66 f rfl rfl g_162 (fun a f => ?_)
   refine l_op f rfl rfl rfl (r_assign (f.eval rfl)) (fun a f => ?_)
   refine l_nil ?_
   refine k_draw 5 Follows (by kernel_rfl) m ?_
   refine q_fieldAddr (i := 0) (listed' := #[true, false, false, false, false, false, false, false]) 5 Tryd.underlying29 rfl Tryd.sizeOf27 (by decide) rfl (by kernel_rfl) rfl f rfl rfl rfl (fun a f => ?_)
   refine q_boxCell (i := 1) (listed' := #[true, true, false, false, false, false, false, false]) 5 1 Pl27 rfl rfl rfl (by kernel_rfl) rfl f rfl rfl rfl (fun a f => ?_)
   refine q_op (i := 2) (listed' := #[true, true, true, false, false, false, false, false]) 5 rfl (by kernel_rfl) rfl f rfl rfl rfl (fun _ _ _ _ _ => r_move (f.eval rfl)) (fun a f => ?_)
   refine q_one (i := 3) (listed' := #[true, true, true, true, false, false, false, false]) rfl (by kernel_rfl) rfl (fun G_164 w hl_165 m K_166 K_166 => ?_)
   have h0 := RSl.mono (RI.mono _) _ _ _ _ hl_165 h0
   have o_108 := Ow.mono (RSl.mono (RI.mono _)) hl_165 o_108
   have m : Mem W G_164 w (Itm.box b_2 29 [(.slice none 0 0)] :: Itm.box b_5 29 [v_106] :: it_107 :: H) := m
   obtain ⟨y_167, hy_168, hs_96⟩ := bind_some hs_96
   refine l_res f rfl rfl Tryd.call100 (Wk.impl_vset_numbers hW m  hy_168) (fun v_172 G_169 Ho_173 w hl_170 m hQ_171 a f => ?_)
   obtain ⟨v_174, it_175, rfl, rfl, o_176⟩ := hQ_171
   have h0 := RSl.mono (RI.mono _) _ _ _ _ hl_170 h0
   have o_108 := Ow.mono (RSl.mono (RI.mono _)) hl_170 o_108
   have m : Mem W G_169 w (it_175 :: Itm.box b_2 29 [(.slice none 0 0)] :: Itm.box b_5 29 [v_106] :: it_107 :: H) := m
   refine l_nil ?_
   refine K_166 G_169 [it_175] _ _ hl_170 m ?_
   refine q_one (i := 4) (listed' := #[true, true, true, true, true, false, false, false]) rfl (by kernel_rfl) rfl (fun G_178 w hl_179 m K_180 K_180 => ?_)
   have h0 := RSl.mono (RI.mono _) _ _ _ _ hl_179 h0
   have o_176 := Ow.mono (RI.mono _) hl_179 o_176
   have o_108 := Ow.mono (RSl.mono (RI.mono _)) hl_179 o_108
   have m : Mem W G_178 w (it_175 :: Itm.box b_2 29 [(.slice none 0 0)] :: Itm.box b_5 29 [v_106] :: it_107 :: H) := m
   obtain ⟨G_181, hl_182, m, h_183⟩ := Ow.stamp (RI.mono _) o_176 m
   have h0 := RSl.mono (RI.mono _) _ _ _ _ hl_182 h0
   have o_108 := Ow.mono (RSl.mono (RI.mono _)) hl_182 o_108
   have m : Mem W G_181 w (Itm.box b_2 29 [(.slice none 0 0)] :: Itm.box b_5 29 [v_106] :: it_107 :: H) := m
   refine l_slit (R := (RSl (RI .i64))) (xs := ([y_167] : List (List Int))) (RSl.one _) m T27 f rfl rfl rfl (by decide) (All2.cons h_183 (All2.nil _)) (fun it_184 v_185 w a m o_186 f => ?_)
   refine l_nil ?_
   refine K_180 G_181 [it_184] _ _ hl_182 m ?_
   refine q_end (fun G_188 w hl_189 m => ?_)
   have h0 := RSl.mono (RI.mono _) _ _ _ _ hl_189 h0
   have h_183 := RSl.mono (RI.mono _) _ _ _ _ hl_189 h_183
   have o_186 := Ow.mono (RSl.mono (RI.mono _)) hl_189 o_186
   have o_108 := Ow.mono (RSl.mono (RI.mono _)) hl_189 o_108
   have m : Mem W G_188 w (it_184 :: Itm.box b_2 29 [(.slice none 0 0)] :: Itm.box b_5 29 [v_106] :: it_107 :: H) := m
   obtain ⟨l_190, hx_191, hs_96⟩ := bind_some hs_96
   refine l_append (RSl.one _) 3 m o_108 rfl T27 rfl (by decide) f rfl rfl rfl (Ow.src (j := 0) o_186 m rfl) hx_191 (fun it_192 v_193 w a m o_194 f => ?_)
   have m : Mem W G_188 w (it_184 :: Itm.box b_2 29 [(.slice none 0 0)] :: Itm.box b_5 29 [v_106] :: it_192 :: H) := m
   refine l_fieldAddr Tryd.underlying29 rfl Tryd.sizeOf27 (by decide) f rfl rfl (fun a f => ?_)
   refine l_boxStore 2 0 (ds := [v_193]) m Tryd.sizeOf27 f rfl rfl (Ow.cells 3 m o_194 rfl) (ones_cons (Ow.one1 3 m o_194 rfl) ones_nil) rfl (Nat.le_of_ble_eq_true rfl) rfl (fun w m => ?_)
   have m : Mem W G_188 w (it_184 :: Itm.box b_2 29 [(.slice none 0 0)] :: Itm.box b_5 29 [v_193] :: it_192 :: H) := m
   refine l_nil ?_
   refine k_region ?_
   refine l_op f rfl rfl rfl (r_int (f.eval rfl) (f.eval rfl) b_add) (fun a f => ?_)
   refine l_op f rfl rfl rfl (r_move (f.eval rfl)) (fun a f => ?_)
   refine l_nil ?_
   have m : Mem W G_188 w (it_192 :: it_184 :: Itm.box b_2 29 [(.slice none 0 0)] :: Itm.box b_5 29 [v_193] :: H) := m.front 3 rfl
   have m : Mem W G_188 w (Itm.box b_5 29 [v_193] :: it_192 :: it_184 :: Itm.box b_2 29 [(.slice none 0 0)] :: H) := m.front 3 rfl
   have m : Mem W G_188 w (Itm.box b_2 29 [(.slice none 0 0)] :: Itm.box b_5 29 [v_193] :: it_192 :: it_184 :: H) := m.front 3 rfl
   have m : Mem W G_188 w (Itm.box b_2 29 [(.slice none 0 0)] :: Itm.box b_5 29 [v_193] :: it_192 :: H) := m.eraseAt 3
   obtain rfl := Option.some.inj hs_96
   exact ⟨_, rfl, _, _, rfl, _, v_193, it_192, (GLe.trans hl_110 (GLe.trans hl_165 (GLe.trans hl_170 (GLe.trans hl_179 (GLe.trans hl_182 hl_189))))), f.weak ⟨rfl, rfl, rfl, rfl, rfl, trivial⟩, m, o_194⟩
  ·refine k_false f rfl hc_157 ?_
   refine k_exit rfl ?_
   have m : Mem W G_103 w (it_107 :: Itm.box b_2 29 [(.slice none 0 0)] :: Itm.box b_5 29 [v_106] :: H) := m.front 2 rfl
   have m : Mem W G_103 w (Itm.box b_5 29 [v_106] :: it_107 :: Itm.box b_2 29 [(.slice none 0 0)] :: H) := m.front 2 rfl
   have m : Mem W G_103 w (Itm.box b_2 29 [(.slice none 0 0)] :: Itm.box b_5 29 [v_106] :: it_107 :: H) := m.front 2 rfl
   obtain rfl := Option.some.inj hs_96
   obtain rfl := hq_97 _ rfl
   exact ⟨_, rfl, _, v_106, it_107, hl_110, f.weak ⟨rfl, rfl, trivial⟩, m, o_108⟩
 ·rintro a w ⟨l_151, rfl, G_150, v_152, it_153, hl_156, f, m, o_154⟩
  refine k_seq ?_
  refine k_region ?_
  refine l_boxAgg 1 0 (ds := [v_152]) m Ag29 f rfl rfl rfl rfl rfl (fun a f => ?_)
  refine l_boxStore 0 0 (ds := [v_152]) m Tryd.sizeOf29 f rfl rfl rfl (ones_cons (Ow.one1 2 m o_154 rfl) ones_nil) rfl (Nat.le_of_ble_eq_true rfl) rfl (fun w m => ?_)
  have m : Mem W G_150 w (Itm.box b_2 29 [v_152] :: Itm.box b_5 29 [v_152] :: it_153 :: H) := m
  refine l_nil ?_
  refine k_ret ?_
  have rc_196 := rr_agg (P := Tryd.prog) 0 m Ag29 f (s := 2) rfl rfl rfl
  have m : Mem W G_150 w (it_153 :: Itm.box b_2 29 [v_152] :: Itm.box b_5 29 [v_152] :: H) := m.front 2 rfl
  have m : Mem W G_150 w (it_153 :: Itm.box b_2 29 [v_152] :: H) := m.eraseAt 2
  have m : Mem W G_150 w (it_153 :: H) := m.eraseAt 1
  obtain rfl := Option.some.inj hd
  exact ⟨[(.agg #[v_152])], ⟨rc_196, trivial⟩, f.defers, _, [it_153], hl_156, m, _, _, rfl, rfl, o_154⟩

theorem Wk.impl_FillOf {W w : World} {G : GH} {H : List Itm} {v0_0 : Value} {v1 : Value} {x0_0 : (List (List Int))} {x1 : (List Int)} (hW : TabW W) (m : Mem W G w (H)) (h0_0 : RSl (RSl (RI .i64)) G v0_0 x0_0) (h1 : RSl (RI .i64) G v1 x1) {y : ((List (List Int))) × Bool} (hd : D.impl_FillOf x0_0 x1 = some y) :
  Calls Tryd.prog 95 #[(.agg #[v0_0]), v1] w (Res W G H (fun G' Ho v => ∃ r0 : Value, ∃ i0 : Itm, Ho = [i0] ∧ v = .tuple #[(.agg #[r0]), (.bool y.2)] ∧ Ow (RSl (RI .i64)) 31 G' i0 r0 y.1)) := by
 refine calls_b (args := [(.agg #[v0_0]), v1]) (N := 23) [.cell 4 29, .tmp 5] Tryd.func95 rfl rfl (Nat.le_of_ble_eq_true rfl) rfl (fun a f => ?_)
 unfold D.impl_FillOf at hd
 refine k_seq ?_
 refine k_region ?_
 refine l_box (cs := [v0_0]) m f rfl rfl rfl (fun b_2 w a m f => ?_)
 refine l_alloc (cs := [(.slice none 0 0)]) Tryd.zeroValue29 m f rfl rfl (fun b_4 w a m f => ?_)
 refine l_op f rfl rfl rfl (r_assign (f.eval rfl)) (fun a f => ?_)
 refine l_nil ?_
 refine k_seq ?_
 refine k_seq ?_
 refine k_region ?_
 refine l_boxAgg 1 0 (ds := [v0_0]) m Ag29 f rfl rfl rfl rfl rfl (fun a f => ?_)
 refine l_op f rfl rfl rfl (r_move (f.eval rfl)) (fun a f => ?_)
 obtain ⟨y_5, hy_6, hd⟩ := bind_some hd
 refine l_res f rfl rfl Tryd.call43 (Wk.impl_OrderOk m h0_0 h1 hy_6) (fun v_10 G_7 Ho_11 w hl_8 m hQ_9 a f => ?_)
 obtain ⟨rfl, rfl⟩ := hQ_9
 have h0_0 := RSl.mono (RSl.mono (RI.mono _)) _ _ _ _ hl_8 h0_0
 have h1 := RSl.mono (RI.mono _) _ _ _ _ hl_8 h1
 have m : Mem W G_7 w (Itm.box b_4 29 [(.slice none 0 0)] :: Itm.box b_2 29 [v0_0] :: H) := m
 refine l_op f rfl rfl rfl (r_not (f.eval rfl)) (fun a f => ?_)
 refine l_nil ?_
 rcases cond_some hd with ⟨hc_12, hd⟩ | ⟨hc_12, hd⟩
 ·refine k_true f rfl hc_12 ?_
  refine k_seq ?_
  refine k_region ?_
  have hb_13 : ∀ w, (Instr.build 29 #[]).run Tryd.prog w = .ok (.agg #[(.slice none 0 0)]) w := by intro w; simp [Instr.build, Instr.fill, cells_int, cells_bool, cells_string, cells_slice, cells_pointer, cells_agg]
  refine l_build f rfl rfl hb_13 (fun a f => ?_)
  refine l_boxStore 0 0 (ds := [(.slice none 0 0)]) m Tryd.sizeOf29 f rfl rfl rfl (ones_cons rfl ones_nil) rfl (Nat.le_of_ble_eq_true rfl) rfl (fun w m => ?_)
  have m : Mem W G_7 w (Itm.box b_4 29 [(.slice none 0 0)] :: Itm.box b_2 29 [v0_0] :: H) := m
  refine l_op f rfl rfl rfl (r_assign (f.eval rfl)) (fun a f => ?_)
  refine l_nil ?_
  refine k_ret ?_
  obtain ⟨it_14, m, o_15⟩ := Ow.nil (RSl (RI .i64)) 31 m
  have m : Mem W G_7 w (it_14 :: Itm.box b_4 29 [(.slice none 0 0)] :: Itm.box b_2 29 [v0_0] :: H) := m
  have rc_17 := rr_agg (P := Tryd.prog) 1 m Ag29 f (s := 4) rfl rfl rfl
  have m : Mem W G_7 w (it_14 :: Itm.box b_4 29 [(.slice none 0 0)] :: H) := m.eraseAt 2
  have m : Mem W G_7 w (it_14 :: H) := m.eraseAt 1
  obtain rfl := Option.some.inj hd
  exact ⟨[(.agg #[(.slice none 0 0)]), (.bool false)], ⟨rc_17, f.get _ _ rfl, trivial⟩, f.defers, _, [it_14], hl_8, m, _, _, rfl, rfl, o_15⟩
 ·refine k_false f rfl hc_12 ?_
  refine k_skip ?_
  refine k_seq ?_
  refine k_region ?_
  refine l_boxAgg 1 0 (ds := [v0_0]) m Ag29 f rfl rfl rfl rfl rfl (fun a f => ?_)
  obtain ⟨y_18, hy_19, hd⟩ := bind_some hd
  refine l_res f rfl rfl Tryd.call46 (Wk.impl_netsOf m h0_0 hy_19) (fun v_23 G_20 Ho_24 w hl_21 m hQ_22 a f => ?_)
  obtain ⟨v_25, it_26, rfl, rfl, o_27⟩ := hQ_22
  have h0_0 := RSl.mono (RSl.mono (RI.mono _)) _ _ _ _ hl_21 h0_0
  have h1 := RSl.mono (RI.mono _) _ _ _ _ hl_21 h1
  have m : Mem W G_20 w (it_26 :: Itm.box b_4 29 [(.slice none 0 0)] :: Itm.box b_2 29 [v0_0] :: H) := m
  refine l_op f rfl rfl rfl (r_move (f.eval rfl)) (fun a f => ?_)
  obtain ⟨y_29, hy_30, hd⟩ := bind_some hd
  refine l_res f rfl rfl Tryd.call47 (Wk.impl_narrow m h1 hy_30) (fun v_34 G_31 Ho_35 w hl_32 m hQ_33 a f => ?_)
  obtain ⟨v_36, it_37, rfl, rfl, o_38⟩ := hQ_33
  have h0_0 := RSl.mono (RSl.mono (RI.mono _)) _ _ _ _ hl_32 h0_0
  have h1 := RSl.mono (RI.mono _) _ _ _ _ hl_32 h1
  have o_27 := Ow.mono (RI.mono _) hl_32 o_27
  have m : Mem W G_31 w (it_37 :: it_26 :: Itm.box b_4 29 [(.slice none 0 0)] :: Itm.box b_2 29 [v0_0] :: H) := m
  obtain ⟨y_40, hy_41, hd⟩ := bind_some hd
  refine l_res f rfl rfl Tryd.call92 (Ow.lendCall (RI.mono _) 1 o_27 m rfl (fun G_42 hl_43 m h_44 => (Ow.lendCall (RI.mono _) 0 (Ow.mono (RI.mono _) hl_43 o_38) m rfl (fun G_45 hl_46 m h_47 => Wk.impl_elimination hW m (RSl.mono (RI.mono _) _ _ _ _ hl_46 h_44) h_47 hy_41) (fun _ G' _ _ ⟨a0, a1, a2, a3, e1, e2, o0, o1⟩ => ⟨a0, a1, a2, a3, e1, e2, Ow.free (RI.free _) G' o0, Ow.free (RI.free _) G' o1⟩))) (fun _ G' _ _ ⟨a0, a1, a2, a3, e1, e2, o0, o1⟩ => ⟨a0, a1, a2, a3, e1, e2, Ow.free (RI.free _) G' o0, Ow.free (RI.free _) G' o1⟩)) (fun v_51 G_48 Ho_52 w hl_49 m hQ_50 a f => ?_)
  obtain ⟨v_53, it_54, v_57, it_58, rfl, rfl, o_55, o_59⟩ := hQ_50
  have h0_0 := RSl.mono (RSl.mono (RI.mono _)) _ _ _ _ hl_49 h0_0
  have h1 := RSl.mono (RI.mono _) _ _ _ _ hl_49 h1
  have o_38 := Ow.mono (RI.mono _) hl_49 o_38
  have o_27 := Ow.mono (RI.mono _) hl_49 o_27
  have m : Mem W G_48 w (it_54 :: it_58 :: it_37 :: it_26 :: Itm.box b_4 29 [(.slice none 0 0)] :: Itm.box b_2 29 [v0_0] :: H) := m
  refine l_op f rfl rfl rfl (r_move (f.eval rfl)) (fun a f => ?_)
  refine l_op f rfl rfl rfl (r_extract (f.eval rfl) rfl) (fun a f => ?_)
  refine l_op f rfl rfl rfl (r_extract (f.eval rfl) rfl) (fun a f => ?_)
  refine l_op f rfl rfl rfl (r_assign (f.eval rfl)) (fun a f => ?_)
  refine l_op f rfl rfl rfl (r_assign (f.eval rfl)) (fun a f => ?_)
  refine l_nil ?_
  refine k_seq ?_
  refine k_region ?_
  refine l_op f rfl rfl rfl (r_move (f.eval rfl)) (fun a f => ?_)
  obtain ⟨G_61, hl_62, m, h_63⟩ := Ow.stamp (RI.mono _) o_55 m
  have h0_0 := RSl.mono (RSl.mono (RI.mono _)) _ _ _ _ hl_62 h0_0
  have h1 := RSl.mono (RI.mono _) _ _ _ _ hl_62 h1
  have o_59 := Ow.mono (RI.mono _) hl_62 o_59
  have o_38 := Ow.mono (RI.mono _) hl_62 o_38
  have o_27 := Ow.mono (RI.mono _) hl_62 o_27
  have m : Mem W G_61 w (it_58 :: it_37 :: it_26 :: Itm.box b_4 29 [(.slice none 0 0)] :: Itm.box b_2 29 [v0_0] :: H) := m
  obtain ⟨y_64, hy_65, hd⟩ := bind_some hd
  refine l_res f rfl rfl Tryd.call78 (Wk.impl_nets_graph hW m h_63 hy_65) (fun v_69 G_66 Ho_70 w hl_67 m hQ_68 a f => ?_)
  obtain ⟨v_71, it_72, rfl, rfl, o_73⟩ := hQ_68
  have h0_0 := RSl.mono (RSl.mono (RI.mono _)) _ _ _ _ hl_67 h0_0
  have h1 := RSl.mono (RI.mono _) _ _ _ _ hl_67 h1
  have h_63 := RSl.mono (RI.mono _) _ _ _ _ hl_67 h_63
  have o_59 := Ow.mono (RI.mono _) hl_67 o_59
  have o_38 := Ow.mono (RI.mono _) hl_67 o_38
  have o_27 := Ow.mono (RI.mono _) hl_67 o_27
  have m : Mem W G_66 w (it_72 :: it_58 :: it_37 :: it_26 :: Itm.box b_4 29 [(.slice none 0 0)] :: Itm.box b_2 29 [v0_0] :: H) := m
  refine l_boxStore 4 0 (ds := [v_71]) m Tryd.sizeOf29 f rfl rfl rfl (ones_cons (Ow.one1 0 m o_73 rfl) ones_nil) rfl (Nat.le_of_ble_eq_true rfl) rfl (fun w m => ?_)
  have m : Mem W G_66 w (it_72 :: it_58 :: it_37 :: it_26 :: Itm.box b_4 29 [v_71] :: Itm.box b_2 29 [v0_0] :: H) := m
  refine l_op f rfl rfl rfl (r_assign (f.eval rfl)) (fun a f => ?_)
  refine l_nil ?_
  refine k_ret ?_
  have rc_75 := rr_agg (P := Tryd.prog) 4 m Ag29 f (s := 4) rfl rfl rfl
  have m : Mem W G_66 w (it_72 :: it_58 :: it_37 :: it_26 :: Itm.box b_4 29 [v_71] :: H) := m.eraseAt 5
  have m : Mem W G_66 w (it_72 :: it_58 :: it_37 :: it_26 :: H) := m.eraseAt 4
  have m : Mem W G_66 w (it_72 :: it_58 :: it_37 :: H) := m.eraseAt 3
  have m : Mem W G_66 w (it_72 :: it_58 :: H) := m.eraseAt 2
  have m : Mem W G_66 w (it_72 :: H) := m.eraseAt 1
  obtain rfl := Option.some.inj hd
  exact ⟨[(.agg #[v_71]), (.bool true)], ⟨rc_75, f.get _ _ rfl, trivial⟩, f.defers, _, [it_72], (GLe.trans hl_8 (GLe.trans hl_21 (GLe.trans hl_32 (GLe.trans hl_49 (GLe.trans hl_62 hl_67))))), m, _, _, rfl, rfl, o_73⟩

theorem Wk.impl_edgesOf {W w : World} {G : GH} {H : List Itm} {v0_0 : Value} {x0_0 : (List (List Int))} (m : Mem W G w (H)) (h0_0 : RSl (RSl (RI .i64)) G v0_0 x0_0) {y : ((List (List Int)))} (hd : D.impl_edgesOf x0_0 = some y) :
  Calls Tryd.prog 131 #[(.agg #[v0_0])] w (Res W G H (fun G' Ho v => ∃ r0 : Value, ∃ i0 : Itm, Ho = [i0] ∧ r0 = v ∧ Ow (RSl (RI .i64)) 31 G' i0 r0 y)) := by
 refine calls_b (args := [(.agg #[v0_0])]) (N := 35) [.tmp 2] Tryd.func131 rfl rfl (Nat.le_of_ble_eq_true rfl) rfl (fun a f => ?_)
 unfold D.impl_edgesOf at hd
 refine k_seq ?_
 refine k_region ?_
 refine l_box (cs := [v0_0]) m f rfl rfl rfl (fun b_2 w a m f => ?_)
 refine l_op f rfl rfl rfl (r_assign (f.eval rfl)) (fun a f => ?_)
 refine l_nil ?_
 refine k_seq ?_
 refine k_region ?_
 refine l_slit (R := (RSl (RI .i64))) (xs := ([] : List (List Int))) (RSl.one _) m T27 f rfl rfl rfl (by decide) (All2.nil _) (fun it_3 v_4 w a m o_5 f => ?_)
 refine l_op f rfl rfl rfl (r_assign (f.eval rfl)) (fun a f => ?_)
 refine l_nil ?_
 refine k_seq ?_
 refine k_seq ?_
 refine k_region ?_
 refine l_fieldAddr Tryd.underlying29 rfl Tryd.sizeOf27 (by decide) f rfl rfl (fun a f => ?_)
 refine l_boxCell 1 0 m Pl27 f rfl rfl rfl rfl (fun a f => ?_)
 refine l_len Tryd.underlying27 f rfl rfl h0_0 (fun a f => ?_)
 refine l_op f rfl rfl rfl (r_move (f.eval rfl)) (fun a f => ?_)
 refine l_nil ?_
 obtain ⟨q_284, hl_285, hd⟩ := bind_some hd
 refine k_cut (fun a w => ∃ l_434 : List (List Int), l_434 = q_284 ∧ ∃ (G_433 : GH) (v_435 : Value) (it_436 : Itm), GLe G G_433 ∧ Fr a 35 [(3, v_435)] ∧ Mem W G_433 w (it_436 :: H) ∧ Ow (RSl (RI .i64)) 31 G_433 it_436 v_435 l_434) ?_ ?_
 ·refine k_block ?_
  have m : Mem W G w (it_3 :: H) := m.eraseAt 1
  refine k_loop (fun s_288 a w => ∃ l_291 : List (List Int), ∃ x_296 : Int, (l_291, x_296) = s_288 ∧ ∃ (G_290 : GH) (v_292 : Value) (it_293 : Itm), GLe G G_290 ∧ Fr a 35 [(3, v_292), (10, v0_0), (11, (.int .i64 (x0_0.length : Int))), (12, (.int .i64 x_296))] ∧ Mem W G_290 w (it_293 :: H) ∧ Ow (RSl (RI .i64)) 31 G_290 it_293 v_292 l_291) hl_285 ⟨_, _, rfl, _, v_4, it_3, (GLe.refl _), f.weak ⟨rfl, rfl, rfl, rfl, trivial⟩, m, o_5⟩ ?_
  clear hl_285 f m
  rintro s_288 o_289 hs_286 hq_287 a w ⟨l_291, x_296, rfl, G_290, v_292, it_293, hl_297, f, m, o_294⟩
  have h0_0 := RSl.mono (RSl.mono (RI.mono _)) _ _ _ _ hl_297 h0_0
  refine k_seq ?_
  refine k_region ?_
  refine l_op f rfl rfl rfl (r_int (f.eval rfl) (f.eval rfl) b_lss) (fun a f => ?_)
  refine l_nil ?_
  refine k_seq ?_
  rcases cond_some hs_286 with ⟨hc_440, hs_286⟩ | ⟨hc_440, hs_286⟩
  ·refine k_true f rfl hc_440 ?_
   refine k_skip ?_
   refine k_seq ?_
   refine k_block ?_
   refine k_seq ?_
   refine k_region ?_
   refine l_op f rfl rfl rfl (r_move (f.eval rfl)) (fun a f => ?_)
   obtain ⟨e_441, he_442, hs_286⟩ := bind_some hs_286
   refine l_at T27 f rfl rfl rfl h0_0 he_442 (fun p_443 c_444 a g_445 h_446 f => ?_)
   refine l_loadAt m Pl31 f rfl rfl g_445 (fun a f => ?_)
   refine l_op f rfl rfl rfl (r_assign (f.eval rfl)) (fun a f => ?_)
   refine l_op f rfl rfl rfl (r_assign (f.eval rfl)) (fun a f => ?_)
   refine l_nil ?_
   refine k_seq ?_
   refine k_region ?_
   refine l_op f rfl rfl rfl (r_move (f.eval rfl)) (fun a f => ?_)
   refine l_len Tryd.underlying31 f rfl rfl h_446 (fun a f => ?_)
   refine l_op f rfl rfl rfl (r_move (f.eval rfl)) (fun a f => ?_)
   refine l_nil ?_
   obtain ⟨q_504, hl_505, hs_286⟩ := bind_some hs_286
   refine k_cut (fun a w => ∃ l_544 : List (List Int), l_544 = q_504 ∧ ∃ (G_543 : GH) (v_545 : Value) (it_546 : Itm), GLe G_290 G_543 ∧ Fr a 35 [(3, v_545), (10, v0_0), (11, (.int .i64 (x0_0.length : Int))), (12, (.int .i64 x_296))] ∧ Mem W G_543 w (it_546 :: H) ∧ Ow (RSl (RI .i64)) 31 G_543 it_546 v_545 l_544) ?_ ?_
   ·refine k_block ?_
    refine k_loop (fun s_508 a w => ∃ l_511 : List (List Int), ∃ x_516 : Int, (l_511, x_516) = s_508 ∧ ∃ (G_510 : GH) (v_512 : Value) (it_513 : Itm), GLe G_290 G_510 ∧ Fr a 35 [(3, v_512), (4, (.int .i64 x_296)), (10, v0_0), (11, (.int .i64 (x0_0.length : Int))), (12, (.int .i64 x_296)), (17, c_444), (18, (.int .i64 (e_441.length : Int))), (19, (.int .i64 x_516))] ∧ Mem W G_510 w (it_513 :: H) ∧ Ow (RSl (RI .i64)) 31 G_510 it_513 v_512 l_511) hl_505 ⟨_, _, rfl, _, v_292, it_293, (GLe.refl _), f.weak ⟨rfl, rfl, rfl, rfl, rfl, rfl, rfl, rfl, trivial⟩, m, o_294⟩ ?_
    clear hl_505 f m
    rintro s_508 o_509 hs_506 hq_507 a w ⟨l_511, x_516, rfl, G_510, v_512, it_513, hl_517, f, m, o_514⟩
    have h0_0 := RSl.mono (RSl.mono (RI.mono _)) _ _ _ _ hl_517 h0_0
    have h_446 := RSl.mono (RI.mono _) _ _ _ _ hl_517 h_446
    refine k_seq ?_
    refine k_region ?_
    refine l_op f rfl rfl rfl (r_int (f.eval rfl) (f.eval rfl) b_lss) (fun a f => ?_)
    refine l_nil ?_
    refine k_seq ?_
    rcases cond_some hs_506 with ⟨hc_550, hs_506⟩ | ⟨hc_550, hs_506⟩
    ·refine k_true f rfl hc_550 ?_
     refine k_skip ?_
     refine k_seq ?_
     refine k_block ?_
     refine k_seq ?_
     refine k_region ?_
     obtain ⟨e_551, he_552, hs_506⟩ := bind_some hs_506
     refine l_at T31 f rfl rfl rfl h_446 he_552 (fun p_553 c_554 a g_555 h_556 f => ?_)
     subst h_556
     refine l_loadAt m Pl2 f rfl rfl g_555 (fun a f => ?_)
     refine l_op f rfl rfl rfl (r_assign (f.eval rfl)) (fun a f => ?_)
     refine l_nil ?_
     refine k_seq ?_
     refine k_region ?_
     refine l_op f rfl rfl rfl (r_move (f.eval rfl)) (fun a f => ?_)
     refine l_op f rfl rfl rfl (r_move (f.eval rfl)) (fun a f => ?_)
     refine l_op f rfl rfl rfl (r_int (f.eval rfl) (f.eval rfl) b_lss) (fun a f => ?_)
     refine l_nil ?_
     rcases cond_some hs_506 with ⟨hc_557, hs_506⟩ | ⟨hc_557, hs_506⟩
     ·refine k_true f rfl hc_557 ?_
      refine k_region ?_
      refine l_op f rfl rfl rfl (r_move (f.eval rfl)) (fun a f => ?_)
      refine l_op f rfl rfl rfl (r_move (f.eval rfl)) (fun a f => ?_)
      refine l_op f rfl rfl rfl (r_move (f.eval rfl)) (fun a f => ?_)
      refine l_slit (R := (RI .i64)) (xs := ([x_296, e_551] : List Int)) (RI.one _) m T31 f rfl rfl rfl (by decide) (All2.cons rfl (All2.cons rfl (All2.nil _))) (fun it_558 v_559 w a m o_560 f => ?_)
      obtain ⟨G_562, hl_563, m, h_564⟩ := Ow.stamp (RI.mono _) o_560 m
      have h0_0 := RSl.mono (RSl.mono (RI.mono _)) _ _ _ _ hl_563 h0_0
      have h_446 := RSl.mono (RI.mono _) _ _ _ _ hl_563 h_446
      have o_514 := Ow.mono (RSl.mono (RI.mono _)) hl_563 o_514
      have m : Mem W G_562 w (it_513 :: H) := m
      refine l_slit (R := (RSl (RI .i64))) (xs := ([([x_296, e_551] : List Int)] : List (List Int))) (RSl.one _) m T27 f rfl rfl rfl (by decide) (All2.cons h_564 (All2.nil _)) (fun it_565 v_566 w a m o_567 f => ?_)
      obtain ⟨l_569, hx_570, hs_506⟩ := bind_some hs_506
      refine l_append (RSl.one _) 1 m o_514 rfl T27 rfl (by decide) f rfl rfl rfl (Ow.src (j := 0) o_567 m rfl) hx_570 (fun it_571 v_572 w a m o_573 f => ?_)
      have m : Mem W G_562 w (it_565 :: it_571 :: H) := m
      refine l_op f rfl rfl rfl (r_assign (f.eval rfl)) (fun a f => ?_)
      refine l_nil ?_
      refine k_region ?_
      refine l_op f rfl rfl rfl (r_int (f.eval rfl) (f.eval rfl) b_add) (fun a f => ?_)
      refine l_op f rfl rfl rfl (r_move (f.eval rfl)) (fun a f => ?_)
      refine l_nil ?_
      have m : Mem W G_562 w (it_571 :: it_565 :: H) := m.front 1 rfl
      have m : Mem W G_562 w (it_571 :: H) := m.eraseAt 1
      obtain rfl := Option.some.inj hs_506
      exact ⟨_, rfl, _, _, rfl, _, v_572, it_571, (GLe.trans hl_517 hl_563), f.weak ⟨rfl, rfl, rfl, rfl, rfl, rfl, rfl, rfl, trivial⟩, m, o_573⟩
     ·refine k_false f rfl hc_557 ?_
      refine k_skip ?_
      refine k_region ?_
      refine l_op f rfl rfl rfl (r_int (f.eval rfl) (f.eval rfl) b_add) (fun a f => ?_)
      refine l_op f rfl rfl rfl (r_move (f.eval rfl)) (fun a f => ?_)
      refine l_nil ?_
      obtain rfl := Option.some.inj hs_506
      exact ⟨_, rfl, _, _, rfl, _, v_512, it_513, hl_517, f.weak ⟨rfl, rfl, rfl, rfl, rfl, rfl, rfl, rfl, trivial⟩, m, o_514⟩
    ·refine k_false f rfl hc_550 ?_
     refine k_exit rfl ?_
     obtain rfl := Option.some.inj hs_506
     obtain rfl := hq_507 _ rfl
     exact ⟨_, rfl, _, v_512, it_513, hl_517, f.weak ⟨rfl, rfl, rfl, rfl, trivial⟩, m, o_514⟩
   ·rintro a w ⟨l_544, rfl, G_543, v_545, it_546, hl_549, f, m, o_547⟩
    have h0_0 := RSl.mono (RSl.mono (RI.mono _)) _ _ _ _ hl_549 h0_0
    refine k_region ?_
    refine l_op f rfl rfl rfl (r_int (f.eval rfl) (f.eval rfl) b_add) (fun a f => ?_)
    refine l_op f rfl rfl rfl (r_move (f.eval rfl)) (fun a f => ?_)
    refine l_nil ?_
    obtain rfl := Option.some.inj hs_286
    exact ⟨_, rfl, _, _, rfl, _, v_545, it_546, (GLe.trans hl_297 hl_549), f.weak ⟨rfl, rfl, rfl, rfl, trivial⟩, m, o_547⟩
  ·refine k_false f rfl hc_440 ?_
   refine k_exit rfl ?_
   obtain rfl := Option.some.inj hs_286
   obtain rfl := hq_287 _ rfl
   exact ⟨_, rfl, _, v_292, it_293, hl_297, f.weak ⟨rfl, trivial⟩, m, o_294⟩
 ·rintro a w ⟨l_434, rfl, G_433, v_435, it_436, hl_439, f, m, o_437⟩
  refine k_seq ?_
  refine k_region ?_
  refine l_op f rfl rfl rfl (r_move (f.eval rfl)) (fun a f => ?_)
  refine l_op f rfl rfl rfl (r_assign (f.eval rfl)) (fun a f => ?_)
  refine l_nil ?_
  refine k_ret ?_
  obtain rfl := Option.some.inj hd
  exact ⟨[v_435], ⟨f.get _ _ rfl, trivial⟩, f.defers, _, [it_436], hl_439, m, _, _, rfl, rfl, o_437⟩

theorem Wk.impl_EdgesOf {W w : World} {G : GH} {H : List Itm} {v0_0 : Value} {x0_0 : (List (List Int))} (m : Mem W G w (H)) (h0_0 : RSl (RSl (RI .i64)) G v0_0 x0_0) {y : ((List (List Int)))} (hd : D.impl_EdgesOf x0_0 = some y) :
  Calls Tryd.prog 123 #[(.agg #[v0_0])] w (Res W G H (fun G' Ho v => ∃ r0 : Value, ∃ i0 : Itm, Ho = [i0] ∧ r0 = v ∧ Ow (RSl (RI .i64)) 31 G' i0 r0 y)) := by
 refine calls_b (args := [(.agg #[v0_0])]) (N := 8) [.tmp 2] Tryd.func123 rfl rfl (Nat.le_of_ble_eq_true rfl) rfl (fun a f => ?_)
 unfold D.impl_EdgesOf at hd
 refine k_seq ?_
 refine k_region ?_
 refine l_box (cs := [v0_0]) m f rfl rfl rfl (fun b_2 w a m f => ?_)
 refine l_op f rfl rfl rfl (r_assign (f.eval rfl)) (fun a f => ?_)
 refine l_nil ?_
 refine k_seq ?_
 refine k_seq ?_
 refine k_region ?_
 refine l_boxAgg 0 0 (ds := [v0_0]) m Ag29 f rfl rfl rfl rfl rfl (fun a f => ?_)
 obtain ⟨y_3, hy_4, hd⟩ := bind_some hd
 refine l_res f rfl rfl Tryd.call55 (Wk.impl_GraphOk m h0_0 hy_4) (fun v_8 G_5 Ho_9 w hl_6 m hQ_7 a f => ?_)
 obtain ⟨rfl, rfl⟩ := hQ_7
 have h0_0 := RSl.mono (RSl.mono (RI.mono _)) _ _ _ _ hl_6 h0_0
 have m : Mem W G_5 w (Itm.box b_2 29 [v0_0] :: H) := m
 refine l_op f rfl rfl rfl (r_not (f.eval rfl)) (fun a f => ?_)
 refine l_nil ?_
 rcases cond_some hd with ⟨hc_10, hd⟩ | ⟨hc_10, hd⟩
 ·refine k_true f rfl hc_10 ?_
  refine k_seq ?_
  refine k_region ?_
  refine l_op f rfl rfl rfl (r_assign (f.eval rfl)) (fun a f => ?_)
  refine l_nil ?_
  refine k_ret ?_
  obtain ⟨it_11, m, o_12⟩ := Ow.nil (RSl (RI .i64)) 31 m
  have m : Mem W G_5 w (it_11 :: Itm.box b_2 29 [v0_0] :: H) := m
  have m : Mem W G_5 w (it_11 :: H) := m.eraseAt 1
  obtain rfl := Option.some.inj hd
  exact ⟨[(.slice none 0 0)], ⟨f.get _ _ rfl, trivial⟩, f.defers, _, [it_11], hl_6, m, _, _, rfl, rfl, o_12⟩
 ·refine k_false f rfl hc_10 ?_
  refine k_skip ?_
  refine k_seq ?_
  refine k_region ?_
  refine l_boxAgg 0 0 (ds := [v0_0]) m Ag29 f rfl rfl rfl rfl rfl (fun a f => ?_)
  obtain ⟨y_14, hy_15, hd⟩ := bind_some hd
  refine l_res f rfl rfl Tryd.call131 (Wk.impl_edgesOf m h0_0 hy_15) (fun v_19 G_16 Ho_20 w hl_17 m hQ_18 a f => ?_)
  obtain ⟨v_21, it_22, rfl, rfl, o_23⟩ := hQ_18
  have h0_0 := RSl.mono (RSl.mono (RI.mono _)) _ _ _ _ hl_17 h0_0
  have m : Mem W G_16 w (it_22 :: Itm.box b_2 29 [v0_0] :: H) := m
  refine l_op f rfl rfl rfl (r_assign (f.eval rfl)) (fun a f => ?_)
  refine l_nil ?_
  refine k_ret ?_
  have m : Mem W G_16 w (it_22 :: H) := m.eraseAt 1
  obtain rfl := Option.some.inj hd
  exact ⟨[v_21], ⟨f.get _ _ rfl, trivial⟩, f.defers, _, [it_22], (GLe.trans hl_6 hl_17), m, _, _, rfl, rfl, o_23⟩

theorem Wk.impl_ManyEdges {W w : World} {G : GH} {H : List Itm} {v0_0 : Value} {x0_0 : (List (List Int))} (m : Mem W G w (H)) (h0_0 : RSl (RSl (RI .i64)) G v0_0 x0_0) {y : Int} (hd : D.impl_ManyEdges x0_0 = some y) :
  Calls Tryd.prog 96 #[(.agg #[v0_0])] w (Res W G H (fun _ Ho v => Ho = [] ∧ v = (.int .i64 y))) := by
 refine calls_b (args := [(.agg #[v0_0])]) (N := 6) [.tmp 2] Tryd.func96 rfl rfl (Nat.le_of_ble_eq_true rfl) rfl (fun a f => ?_)
 unfold D.impl_ManyEdges at hd
 refine k_seq ?_
 refine k_region ?_
 refine l_box (cs := [v0_0]) m f rfl rfl rfl (fun b_2 w a m f => ?_)
 refine l_op f rfl rfl rfl (r_assign (f.eval rfl)) (fun a f => ?_)
 refine l_nil ?_
 refine k_seq ?_
 refine k_region ?_
 refine l_boxAgg 0 0 (ds := [v0_0]) m Ag29 f rfl rfl rfl rfl rfl (fun a f => ?_)
 obtain ⟨y_3, hy_4, hd⟩ := bind_some hd
 refine l_res f rfl rfl Tryd.call123 (Wk.impl_EdgesOf m h0_0 hy_4) (fun v_8 G_5 Ho_9 w hl_6 m hQ_7 a f => ?_)
 obtain ⟨v_10, it_11, rfl, rfl, o_12⟩ := hQ_7
 have h0_0 := RSl.mono (RSl.mono (RI.mono _)) _ _ _ _ hl_6 h0_0
 have m : Mem W G_5 w (it_11 :: Itm.box b_2 29 [v0_0] :: H) := m
 refine l_own_len 0 m o_12 rfl Tryd.underlying27 f rfl rfl (fun a f => ?_)
 refine l_op f rfl rfl rfl (r_assign (f.eval rfl)) (fun a f => ?_)
 refine l_nil ?_
 refine k_ret ?_
 have m : Mem W G_5 w H := Mem.drop (H' := [it_11, Itm.box b_2 29 [v0_0]]) m
 obtain rfl := Option.some.inj hd
 exact ⟨[(.int .i64 (y_3.length : Int))], ⟨f.get _ _ rfl, trivial⟩, f.defers, _, [], hl_6, m, rfl, rfl⟩

theorem Wk.impl_FillMany {W w : World} {G : GH} {H : List Itm} {v0_0 : Value} {v1 : Value} {x0_0 : (List (List Int))} {x1 : (List Int)} (hW : TabW W) (m : Mem W G w (H)) (h0_0 : RSl (RSl (RI .i64)) G v0_0 x0_0) (h1 : RSl (RI .i64) G v1 x1) {y : Int} (hd : D.impl_FillMany x0_0 x1 = some y) :
  Calls Tryd.prog 40 #[(.agg #[v0_0]), v1] w (Res W G H (fun _ Ho v => Ho = [] ∧ v = (.int .i64 y))) := by
 refine calls_b (args := [(.agg #[v0_0]), v1]) (N := 20) [.tmp 4] Tryd.func40 rfl rfl (Nat.le_of_ble_eq_true rfl) rfl (fun a f => ?_)
 unfold D.impl_FillMany at hd
 refine k_seq ?_
 refine k_region ?_
 refine l_box (cs := [v0_0]) m f rfl rfl rfl (fun b_2 w a m f => ?_)
 refine l_op f rfl rfl rfl (r_assign (f.eval rfl)) (fun a f => ?_)
 refine l_nil ?_
 refine k_seq ?_
 refine k_region ?_
 refine l_boxAgg 0 0 (ds := [v0_0]) m Ag29 f rfl rfl rfl rfl rfl (fun a f => ?_)
 refine l_op f rfl rfl rfl (r_move (f.eval rfl)) (fun a f => ?_)
 obtain ⟨y_3, hy_4, hd⟩ := bind_some hd
 refine l_res f rfl rfl Tryd.call95 (Wk.impl_FillOf hW m h0_0 h1 hy_4) (fun v_8 G_5 Ho_9 w hl_6 m hQ_7 a f => ?_)
 obtain ⟨v_10, it_11, rfl, rfl, o_12⟩ := hQ_7
 have h0_0 := RSl.mono (RSl.mono (RI.mono _)) _ _ _ _ hl_6 h0_0
 have h1 := RSl.mono (RI.mono _) _ _ _ _ hl_6 h1
 have m : Mem W G_5 w (it_11 :: Itm.box b_2 29 [v0_0] :: H) := m
 refine l_op f rfl rfl rfl (r_move (f.eval rfl)) (fun a f => ?_)
 refine l_op f rfl rfl rfl (r_extract (f.eval rfl) rfl) (fun a f => ?_)
 refine l_op f rfl rfl rfl (r_extract (f.eval rfl) rfl) (fun a f => ?_)
 refine l_alloc (cs := [(.slice none 0 0)]) Tryd.zeroValue29 m f rfl rfl (fun b_15 w a m f => ?_)
 refine l_boxStore 0 0 (ds := [v_10]) m Tryd.sizeOf29 f rfl rfl rfl (ones_cons (Ow.one1 1 m o_12 rfl) ones_nil) rfl (Nat.le_of_ble_eq_true rfl) rfl (fun w m => ?_)
 have m : Mem W G_5 w (Itm.box b_15 29 [v_10] :: it_11 :: Itm.box b_2 29 [v0_0] :: H) := m
 refine l_op f rfl rfl rfl (r_assign (f.eval rfl)) (fun a f => ?_)
 refine l_nil ?_
 refine k_seq ?_
 refine k_seq ?_
 refine k_region ?_
 refine l_op f rfl rfl rfl (r_move (f.eval rfl)) (fun a f => ?_)
 refine l_op f rfl rfl rfl (r_not (f.eval rfl)) (fun a f => ?_)
 refine l_nil ?_
 rcases cond_some hd with ⟨hc_16, hd⟩ | ⟨hc_16, hd⟩
 ·refine k_true f rfl hc_16 ?_
  refine k_seq ?_
  refine k_region ?_
  refine l_op f rfl rfl rfl (r_assign (f.eval rfl)) (fun a f => ?_)
  refine l_nil ?_
  refine k_ret ?_
  have m : Mem W G_5 w H := Mem.drop (H' := [Itm.box b_15 29 [v_10], it_11, Itm.box b_2 29 [v0_0]]) m
  obtain rfl := Option.some.inj hd
  exact ⟨[(.int .i64 (-1))], ⟨f.get _ _ rfl, trivial⟩, f.defers, _, [], hl_6, m, rfl, rfl⟩
 ·refine k_false f rfl hc_16 ?_
  refine k_skip ?_
  refine k_seq ?_
  refine k_draw 6 Follows (by kernel_rfl) m ?_
  refine q_boxAgg (i := 0) (listed' := #[true, false, false, false, false, false]) (ds := [v_10]) 6 0 Ag29 rfl rfl rfl rfl (by kernel_rfl) rfl f rfl rfl rfl (fun a f => ?_)
  obtain ⟨y_17, hy_18, hd⟩ := bind_some hd
  refine q_call (i := 1) (listed' := #[true, true, false, false, false, false]) 6 rfl (by kernel_rfl) rfl f rfl rfl rfl Tryd.call96 (fun _ _ w hG_19 m => (Ow.lendCallR (RSl.mono (RI.mono _)) 1 (Ow.mono (RSl.mono (RI.mono _)) hG_19 o_12) m rfl (fun G_20 hl_21 m h_22 => Wk.impl_ManyEdges m h_22 hy_18) (fun _ _ _ _ h => h))) (fun a f => ?_)
  refine q_boxAgg (i := 2) (listed' := #[true, true, true, false, false, false]) (ds := [v0_0]) 6 2 Ag29 rfl rfl rfl rfl (by kernel_rfl) rfl f rfl rfl rfl (fun a f => ?_)
  obtain ⟨y_23, hy_24, hd⟩ := bind_some hd
  refine q_call (i := 3) (listed' := #[true, true, true, true, false, false]) 6 rfl (by kernel_rfl) rfl f rfl rfl rfl Tryd.call96 (fun _ _ w hG_25 m => Wk.impl_ManyEdges m (RSl.mono (RSl.mono (RI.mono _)) _ _ _ _ hG_25 h0_0) hy_24) (fun a f => ?_)
  refine q_op (i := 4) (listed' := #[true, true, true, true, true, false]) 6 rfl (by kernel_rfl) rfl f rfl rfl rfl (fun _ _ _ _ _ => r_int (f.eval rfl) (f.eval rfl) b_sub) (fun a f => ?_)
  refine q_op (i := 5) (listed' := #[true, true, true, true, true, true]) 6 rfl (by kernel_rfl) rfl f rfl rfl rfl (fun _ _ _ _ _ => r_assign (f.eval rfl)) (fun a f => ?_)
  refine q_end (fun G_26 w hl_27 m => ?_)
  have h0_0 := RSl.mono (RSl.mono (RI.mono _)) _ _ _ _ hl_27 h0_0
  have h1 := RSl.mono (RI.mono _) _ _ _ _ hl_27 h1
  have o_12 := Ow.mono (RSl.mono (RI.mono _)) hl_27 o_12
  have m : Mem W G_26 w (Itm.box b_15 29 [v_10] :: it_11 :: Itm.box b_2 29 [v0_0] :: H) := m
  refine l_nil ?_
  refine k_ret ?_
  have m : Mem W G_26 w H := Mem.drop (H' := [Itm.box b_15 29 [v_10], it_11, Itm.box b_2 29 [v0_0]]) m
  obtain rfl := Option.some.inj hd
  exact ⟨[(.int .i64 (IntKind.i64.wrap (y_17 - y_23)))], ⟨f.get _ _ rfl, trivial⟩, f.defers, _, [], (GLe.trans hl_6 hl_27), m, rfl, rfl⟩

theorem Wk.spec_l7Left {W w : World} {G : GH} {H : List Itm} {v0_0 : Value} {v2 : Value} {x0_0 : (List (List Int))} {x1 : Int} {x2 : (List Bool)} (m : Mem W G w (H)) (h0_0 : RSl (RSl (RI .i64)) G v0_0 x0_0) (h2 : RSl RB G v2 x2) {y : ((List Int))} (hd : D.spec_l7Left x0_0 x1 x2 = some y) :
  Calls Tryd.prog 90 #[(.agg #[v0_0]), (.int .i64 x1), v2] w (Res W G H (fun G' Ho v => ∃ r0 : Value, ∃ i0 : Itm, Ho = [i0] ∧ r0 = v ∧ Ow (RI .i64) 2 G' i0 r0 y)) := by
 refine calls_b (args := [(.agg #[v0_0]), (.int .i64 x1), v2]) (N := 44) [.tmp 6] Tryd.func90 rfl rfl (Nat.le_of_ble_eq_true rfl) rfl (fun a f => ?_)
 unfold D.spec_l7Left at hd
 refine k_seq ?_
 refine k_region ?_
 refine l_box (cs := [v0_0]) m f rfl rfl rfl (fun b_2 w a m f => ?_)
 refine l_op f rfl rfl rfl (r_assign (f.eval rfl)) (fun a f => ?_)
 refine l_nil ?_
 refine k_seq ?_
 refine k_region ?_
 refine l_slit (R := (RI .i64)) (xs := ([] : List Int)) (RI.one _) m T31 f rfl rfl rfl (by decide) (All2.nil _) (fun it_3 v_4 w a m o_5 f => ?_)
 refine l_op f rfl rfl rfl (r_assign (f.eval rfl)) (fun a f => ?_)
 refine l_nil ?_
 refine k_seq ?_
 refine k_seq ?_
 refine k_region ?_
 refine l_op f rfl rfl rfl (r_assign (f.eval rfl)) (fun a f => ?_)
 refine l_nil ?_
 obtain ⟨q_110, hl_111, hd⟩ := bind_some hd
 refine k_cut (fun a w => ∃ l_173 : List Int, l_173 = q_110 ∧ ∃ (G_172 : GH) (v_174 : Value) (it_175 : Itm), GLe G G_172 ∧ Fr a 44 [(7, v_174)] ∧ Mem W G_172 w (it_175 :: H) ∧ Ow (RI .i64) 2 G_172 it_175 v_174 l_173) ?_ ?_
 ·refine k_block ?_
  have m : Mem W G w (Itm.box b_2 29 [v0_0] :: it_3 :: H) := m.front 1 rfl
  refine k_loop (fun s_114 a w => ∃ l_117 : List Int, ∃ x_122 : Int, (l_117, x_122) = s_114 ∧ ∃ (G_116 : GH) (v_118 : Value) (it_119 : Itm), GLe G G_116 ∧ Fr a 44 [(1, (.int .i64 x1)), (2, v2), (3, (.pointer (some ⟨b_2, 0, none⟩))), (7, v_118), (8, (.int .i64 x_122))] ∧ Mem W G_116 w (Itm.box b_2 29 [v0_0] :: it_119 :: H) ∧ Ow (RI .i64) 2 G_116 it_119 v_118 l_117) hl_111 ⟨_, _, rfl, _, v_4, it_3, (GLe.refl _), f.weak ⟨rfl, rfl, rfl, rfl, rfl, trivial⟩, m, o_5⟩ ?_
  clear hl_111 f m
  rintro s_114 o_115 hs_112 hq_113 a w ⟨l_117, x_122, rfl, G_116, v_118, it_119, hl_123, f, m, o_120⟩
  have h2 := RSl.mono RB.mono _ _ _ _ hl_123 h2
  have h0_0 := RSl.mono (RSl.mono (RI.mono _)) _ _ _ _ hl_123 h0_0
  refine k_seq ?_
  refine k_seq ?_
  refine k_region ?_
  refine l_op f rfl rfl rfl (r_move (f.eval rfl)) (fun a f => ?_)
  refine l_fieldAddr Tryd.underlying29 rfl Tryd.sizeOf27 (by decide) f rfl rfl (fun a f => ?_)
  refine l_boxCell 0 0 m Pl27 f rfl rfl rfl rfl (fun a f => ?_)
  refine l_op f rfl rfl rfl (r_move (f.eval rfl)) (fun a f => ?_)
  obtain ⟨e_179, he_180, hs_112⟩ := bind_some hs_112
  refine l_at T27 f rfl rfl rfl h0_0 he_180 (fun p_181 c_182 a g_183 h_184 f => ?_)
  refine l_loadAt m Pl31 f rfl rfl g_183 (fun a f => ?_)
  refine l_len Tryd.underlying31 f rfl rfl h_184 (fun a f => ?_)
  refine l_op f rfl rfl rfl (r_int (f.eval rfl) (f.eval rfl) b_lss) (fun a f => ?_)
  refine l_nil ?_
  rcases cond_some hs_112 with ⟨hc_185, hs_112⟩ | ⟨hc_185, hs_112⟩
  ·refine k_true f rfl hc_185 ?_
   refine k_skip ?_
   refine k_seq ?_
   refine k_block ?_
   refine k_seq ?_
   refine k_region ?_
   refine l_op f rfl rfl rfl (r_move (f.eval rfl)) (fun a f => ?_)
   refine l_fieldAddr Tryd.underlying29 rfl Tryd.sizeOf27 (by decide) f rfl rfl (fun a f => ?_)
   refine l_boxCell 0 0 m Pl27 f rfl rfl rfl rfl (fun a f => ?_)
   refine l_op f rfl rfl rfl (r_move (f.eval rfl)) (fun a f => ?_)
   obtain ⟨e_186, he_187, hs_112⟩ := bind_some hs_112
   refine l_at T27 f rfl rfl rfl h0_0 he_187 (fun p_188 c_189 a g_190 h_191 f => ?_)
   refine l_loadAt m Pl31 f rfl rfl g_190 (fun a f => ?_)
   refine l_op f rfl rfl rfl (r_move (f.eval rfl)) (fun a f => ?_)
   obtain ⟨e_192, he_193, hs_112⟩ := bind_some hs_112
   refine l_at T31 f rfl rfl rfl h_191 he_193 (fun p_194 c_195 a g_196 h_197 f => ?_)
   subst h_197
   refine l_loadAt m Pl2 f rfl rfl g_196 (fun a f => ?_)
   obtain ⟨e_198, he_199, hs_112⟩ := bind_some hs_112
   refine l_at T103 f rfl rfl rfl h2 he_199 (fun p_200 c_201 a g_202 h_203 f => ?_)
   subst h_203
   refine l_loadAt m Pl4 f rfl rfl g_202 (fun a f => ?_)
   refine l_op f rfl rfl rfl (r_not (f.eval rfl)) (fun a f => ?_)
   refine l_nil ?_
   rcases cond_some hs_112 with ⟨hc_204, hs_112⟩ | ⟨hc_204, hs_112⟩
   ·refine k_true f rfl hc_204 ?_
    refine k_region ?_
    refine l_op f rfl rfl rfl (r_move (f.eval rfl)) (fun a f => ?_)
    refine l_fieldAddr Tryd.underlying29 rfl Tryd.sizeOf27 (by decide) f rfl rfl (fun a f => ?_)
    refine l_boxCell 0 0 m Pl27 f rfl rfl rfl rfl (fun a f => ?_)
    refine l_op f rfl rfl rfl (r_move (f.eval rfl)) (fun a f => ?_)
    obtain ⟨e_205, he_206, hs_112⟩ := bind_some hs_112
    refine l_at T27 f rfl rfl rfl h0_0 he_206 (fun p_207 c_208 a g_209 h_210 f => ?_)
    refine l_loadAt m Pl31 f rfl rfl g_209 (fun a f => ?_)
    refine l_op f rfl rfl rfl (r_move (f.eval rfl)) (fun a f => ?_)
    obtain ⟨e_211, he_212, hs_112⟩ := bind_some hs_112
    refine l_at T31 f rfl rfl rfl h_210 he_212 (fun p_213 c_214 a g_215 h_216 f => ?_)
    subst h_216
    refine l_loadAt m Pl2 f rfl rfl g_215 (fun a f => ?_)
    refine l_slit (R := (RI .i64)) (xs := ([e_211] : List Int)) (RI.one _) m T31 f rfl rfl rfl (by decide) (All2.cons rfl (All2.nil _)) (fun it_217 v_218 w a m o_219 f => ?_)
    obtain ⟨l_221, hx_222, hs_112⟩ := bind_some hs_112
    refine l_append (RI.one _) 2 m o_120 rfl T31 rfl (by decide) f rfl rfl rfl (Ow.src (j := 0) o_219 m rfl) hx_222 (fun it_223 v_224 w a m o_225 f => ?_)
    have m : Mem W G_116 w (it_217 :: Itm.box b_2 29 [v0_0] :: it_223 :: H) := m
    refine l_op f rfl rfl rfl (r_assign (f.eval rfl)) (fun a f => ?_)
    refine l_nil ?_
    refine k_region ?_
    refine l_op f rfl rfl rfl (r_move (f.eval rfl)) (fun a f => ?_)
    refine l_op f rfl rfl rfl (r_int (f.eval rfl) (f.eval rfl) b_add) (fun a f => ?_)
    refine l_op f rfl rfl rfl (r_assign (f.eval rfl)) (fun a f => ?_)
    refine l_nil ?_
    have m : Mem W G_116 w (it_223 :: it_217 :: Itm.box b_2 29 [v0_0] :: H) := m.front 2 rfl
    have m : Mem W G_116 w (Itm.box b_2 29 [v0_0] :: it_223 :: it_217 :: H) := m.front 2 rfl
    have m : Mem W G_116 w (Itm.box b_2 29 [v0_0] :: it_223 :: H) := m.eraseAt 2
    obtain rfl := Option.some.inj hs_112
    exact ⟨_, rfl, _, _, rfl, _, v_224, it_223, hl_123, f.weak ⟨rfl, rfl, rfl, rfl, rfl, trivial⟩, m, o_225⟩
   ·refine k_false f rfl hc_204 ?_
    refine k_skip ?_
    refine k_region ?_
    refine l_op f rfl rfl rfl (r_move (f.eval rfl)) (fun a f => ?_)
    refine l_op f rfl rfl rfl (r_int (f.eval rfl) (f.eval rfl) b_add) (fun a f => ?_)
    refine l_op f rfl rfl rfl (r_assign (f.eval rfl)) (fun a f => ?_)
    refine l_nil ?_
    have m : Mem W G_116 w (it_119 :: Itm.box b_2 29 [v0_0] :: H) := m.front 1 rfl
    have m : Mem W G_116 w (Itm.box b_2 29 [v0_0] :: it_119 :: H) := m.front 1 rfl
    obtain rfl := Option.some.inj hs_112
    exact ⟨_, rfl, _, _, rfl, _, v_118, it_119, hl_123, f.weak ⟨rfl, rfl, rfl, rfl, rfl, trivial⟩, m, o_120⟩
  ·refine k_false f rfl hc_185 ?_
   refine k_exit rfl ?_
   have m : Mem W G_116 w (it_119 :: Itm.box b_2 29 [v0_0] :: H) := m.front 1 rfl
   have m : Mem W G_116 w (it_119 :: H) := m.eraseAt 1
   obtain rfl := Option.some.inj hs_112
   obtain rfl := hq_113 _ rfl
   exact ⟨_, rfl, _, v_118, it_119, hl_123, f.weak ⟨rfl, trivial⟩, m, o_120⟩
 ·rintro a w ⟨l_173, rfl, G_172, v_174, it_175, hl_178, f, m, o_176⟩
  refine k_seq ?_
  refine k_region ?_
  refine l_op f rfl rfl rfl (r_move (f.eval rfl)) (fun a f => ?_)
  refine l_op f rfl rfl rfl (r_assign (f.eval rfl)) (fun a f => ?_)
  refine l_nil ?_
  refine k_ret ?_
  obtain rfl := Option.some.inj hd
  exact ⟨[v_174], ⟨f.get _ _ rfl, trivial⟩, f.defers, _, [it_175], hl_178, m, _, _, rfl, rfl, o_176⟩

theorem Wk.spec_l1Edge {W w : World} {G : GH} {H : List Itm} {v0_0 : Value} {x0_0 : (List (List Int))} {x1 : Int} {x2 : Int} (m : Mem W G w (H)) (h0_0 : RSl (RSl (RI .i64)) G v0_0 x0_0) {y : Bool} (hd : D.spec_l1Edge x0_0 x1 x2 = some y) :
  Calls Tryd.prog 130 #[(.agg #[v0_0]), (.int .i64 x1), (.int .i64 x2)] w (Res W G H (fun _ Ho v => Ho = [] ∧ v = (.bool y))) := by
 refine calls_b (args := [(.agg #[v0_0]), (.int .i64 x1), (.int .i64 x2)]) (N := 14) [.tmp 6] Tryd.func130 rfl rfl (Nat.le_of_ble_eq_true rfl) rfl (fun a f => ?_)
 unfold D.spec_l1Edge at hd
 refine k_seq ?_
 refine k_region ?_
 refine l_box (cs := [v0_0]) m f rfl rfl rfl (fun b_2 w a m f => ?_)
 refine l_op f rfl rfl rfl (r_assign (f.eval rfl)) (fun a f => ?_)
 refine l_nil ?_
 refine k_seq ?_
 refine k_region ?_
 refine l_fieldAddr Tryd.underlying29 rfl Tryd.sizeOf27 (by decide) f rfl rfl (fun a f => ?_)
 refine l_boxCell 0 0 m Pl27 f rfl rfl rfl rfl (fun a f => ?_)
 refine l_op f rfl rfl rfl (r_move (f.eval rfl)) (fun a f => ?_)
 obtain ⟨e_3, he_4, hd⟩ := bind_some hd
 refine l_at T27 f rfl rfl rfl h0_0 he_4 (fun p_5 c_6 a g_7 h_8 f => ?_)
 refine l_loadAt m Pl31 f rfl rfl g_7 (fun a f => ?_)
 refine l_op f rfl rfl rfl (r_move (f.eval rfl)) (fun a f => ?_)
 obtain ⟨y_9, hy_10, hd⟩ := bind_some hd
 refine l_res f rfl rfl Tryd.call68 (Wk.spec_l1Has m h_8 hy_10) (fun v_14 G_11 Ho_15 w hl_12 m hQ_13 a f => ?_)
 obtain ⟨rfl, rfl⟩ := hQ_13
 have h0_0 := RSl.mono (RSl.mono (RI.mono _)) _ _ _ _ hl_12 h0_0
 have g_7 := At.mono hl_12 g_7
 have h_8 := RSl.mono (RI.mono _) _ _ _ _ hl_12 h_8
 have m : Mem W G_11 w (Itm.box b_2 29 [v0_0] :: H) := m
 refine l_op f rfl rfl rfl (r_assign (f.eval rfl)) (fun a f => ?_)
 refine l_nil ?_
 refine k_ret ?_
 have m : Mem W G_11 w H := Mem.drop (H' := [Itm.box b_2 29 [v0_0]]) m
 obtain rfl := Option.some.inj hd
 exact ⟨[(.bool y_9)], ⟨f.get _ _ rfl, trivial⟩, f.defers, _, [], hl_12, m, rfl, rfl⟩

theorem Wk.spec_l7Missing {W w : World} {G : GH} {H : List Itm} {v0_0 : Value} {v1 : Value} {x0_0 : (List (List Int))} {x1 : (List Int)} (m : Mem W G w (H)) (h0_0 : RSl (RSl (RI .i64)) G v0_0 x0_0) (h1 : RSl (RI .i64) G v1 x1) {y : Int} (hd : D.spec_l7Missing x0_0 x1 = some y) :
  Calls Tryd.prog 121 #[(.agg #[v0_0]), v1] w (Res W G H (fun _ Ho v => Ho = [] ∧ v = (.int .i64 y))) := by
 refine calls_b (args := [(.agg #[v0_0]), v1]) (N := 33) [.tmp 4] Tryd.func121 rfl rfl (Nat.le_of_ble_eq_true rfl) rfl (fun a f => ?_)
 unfold D.spec_l7Missing at hd
 refine k_seq ?_
 refine k_region ?_
 refine l_box (cs := [v0_0]) m f rfl rfl rfl (fun b_2 w a m f => ?_)
 refine l_op f rfl rfl rfl (r_assign (f.eval rfl)) (fun a f => ?_)
 refine l_nil ?_
 refine k_seq ?_
 refine k_region ?_
 refine l_op f rfl rfl rfl (r_assign (f.eval rfl)) (fun a f => ?_)
 refine l_nil ?_
 refine k_seq ?_
 refine k_seq ?_
 refine k_region ?_
 refine l_op f rfl rfl rfl (r_assign (f.eval rfl)) (fun a f => ?_)
 refine l_nil ?_
 obtain ⟨q_192, hl_193, hd⟩ := bind_some hd
 refine k_cut (fun a w => ∃ x_296 : Int, x_296 = q_192 ∧ ∃ (G_295 : GH), GLe G G_295 ∧ Fr a 33 [(5, (.int .i64 x_296))] ∧ Mem W G_295 w (H)) ?_ ?_
 ·refine k_block ?_
  refine k_loop (fun s_196 a w => ∃ x_199 : Int, ∃ x_200 : Int, (x_199, x_200) = s_196 ∧ ∃ (G_198 : GH), GLe G G_198 ∧ Fr a 33 [(1, v1), (2, (.pointer (some ⟨b_2, 0, none⟩))), (5, (.int .i64 x_199)), (6, (.int .i64 x_200))] ∧ Mem W G_198 w (Itm.box b_2 29 [v0_0] :: H)) hl_193 ⟨_, _, rfl, _, (GLe.refl _), f.weak ⟨rfl, rfl, rfl, rfl, trivial⟩, m⟩ ?_
  clear hl_193 f m
  rintro s_196 o_197 hs_194 hq_195 a w ⟨x_199, x_200, rfl, G_198, hl_201, f, m⟩
  have h1 := RSl.mono (RI.mono _) _ _ _ _ hl_201 h1
  have h0_0 := RSl.mono (RSl.mono (RI.mono _)) _ _ _ _ hl_201 h0_0
  refine k_seq ?_
  refine k_seq ?_
  refine k_region ?_
  refine l_op f rfl rfl rfl (r_move (f.eval rfl)) (fun a f => ?_)
  refine l_op f rfl rfl rfl (r_move (f.eval rfl)) (fun a f => ?_)
  refine l_len Tryd.underlying31 f rfl rfl h1 (fun a f => ?_)
  refine l_op f rfl rfl rfl (r_int (f.eval rfl) (f.eval rfl) b_lss) (fun a f => ?_)
  refine l_nil ?_
  rcases cond_some hs_194 with ⟨hc_298, hs_194⟩ | ⟨hc_298, hs_194⟩
  ·refine k_true f rfl hc_298 ?_
   refine k_skip ?_
   refine k_seq ?_
   refine k_block ?_
   refine k_seq ?_
   refine k_region ?_
   refine l_op f rfl rfl rfl (r_assign (f.eval rfl)) (fun a f => ?_)
   refine l_nil ?_
   obtain ⟨q_340, hl_341, hs_194⟩ := bind_some hs_194
   refine k_cut (fun a w => ∃ x_370 : Int, x_370 = q_340 ∧ ∃ (G_369 : GH), GLe G_198 G_369 ∧ Fr a 33 [(1, v1), (2, (.pointer (some ⟨b_2, 0, none⟩))), (5, (.int .i64 x_370)), (6, (.int .i64 x_200))] ∧ Mem W G_369 w (Itm.box b_2 29 [v0_0] :: H)) ?_ ?_
   ·refine k_block ?_
    refine k_loop (fun s_344 a w => ∃ x_347 : Int, ∃ x_348 : Int, (x_347, x_348) = s_344 ∧ ∃ (G_346 : GH), GLe G_198 G_346 ∧ Fr a 33 [(1, v1), (2, (.pointer (some ⟨b_2, 0, none⟩))), (5, (.int .i64 x_347)), (6, (.int .i64 x_200)), (7, (.int .i64 x_348))] ∧ Mem W G_346 w (Itm.box b_2 29 [v0_0] :: H)) hl_341 ⟨_, _, rfl, _, (GLe.refl _), f.weak ⟨rfl, rfl, rfl, rfl, rfl, trivial⟩, m⟩ ?_
    clear hl_341 f m
    rintro s_344 o_345 hs_342 hq_343 a w ⟨x_347, x_348, rfl, G_346, hl_349, f, m⟩
    have h1 := RSl.mono (RI.mono _) _ _ _ _ hl_349 h1
    have h0_0 := RSl.mono (RSl.mono (RI.mono _)) _ _ _ _ hl_349 h0_0
    refine k_seq ?_
    refine k_seq ?_
    refine k_region ?_
    refine l_op f rfl rfl rfl (r_move (f.eval rfl)) (fun a f => ?_)
    refine l_op f rfl rfl rfl (r_move (f.eval rfl)) (fun a f => ?_)
    refine l_op f rfl rfl rfl (r_int (f.eval rfl) (f.eval rfl) b_lss) (fun a f => ?_)
    refine l_nil ?_
    rcases cond_some hs_342 with ⟨hc_372, hs_342⟩ | ⟨hc_372, hs_342⟩
    ·refine k_true f rfl hc_372 ?_
     refine k_skip ?_
     refine k_seq ?_
     refine k_block ?_
     refine k_seq ?_
     refine k_draw 11 Follows (by kernel_rfl) m ?_
     refine q_boxAgg (i := 0) (listed' := #[true, false, false, false, false, false, false, false, false, false, false]) (ds := [v0_0]) 11 0 Ag29 rfl rfl rfl rfl (by kernel_rfl) rfl f rfl rfl rfl (fun a f => ?_)
     refine q_op (i := 1) (listed' := #[true, true, false, false, false, false, false, false, false, false, false]) 11 rfl (by kernel_rfl) rfl f rfl rfl rfl (fun _ _ _ _ _ => r_move (f.eval rfl)) (fun a f => ?_)
     refine q_op (i := 2) (listed' := #[true, true, true, false, false, false, false, false, false, false, false]) 11 rfl (by kernel_rfl) rfl f rfl rfl rfl (fun _ _ _ _ _ => r_move (f.eval rfl)) (fun a f => ?_)
     obtain ⟨e_373, he_374, hs_342⟩ := bind_some hs_342
     refine q_at (i := 3) (listed' := #[true, true, true, true, false, false, false, false, false, false, false]) 11 T31 h1 he_374 rfl (by kernel_rfl) rfl f rfl rfl rfl rfl (fun p_375 c_376 a g_377 h_378 f => ?_)
     subst h_378
     refine q_loadAt (i := 4) (listed' := #[true, true, true, true, true, false, false, false, false, false, false]) 11 Pl2 g_377 rfl (by kernel_rfl) rfl f rfl rfl rfl (fun a f => ?_)
     refine q_op (i := 5) (listed' := #[true, true, true, true, true, true, false, false, false, false, false]) 11 rfl (by kernel_rfl) rfl f rfl rfl rfl (fun _ _ _ _ _ => r_move (f.eval rfl)) (fun a f => ?_)
     refine q_op (i := 6) (listed' := #[true, true, true, true, true, true, true, false, false, false, false]) 11 rfl (by kernel_rfl) rfl f rfl rfl rfl (fun _ _ _ _ _ => r_move (f.eval rfl)) (fun a f => ?_)
     obtain ⟨e_379, he_380, hs_342⟩ := bind_some hs_342
     refine q_at (i := 7) (listed' := #[true, true, true, true, true, true, true, true, false, false, false]) 11 T31 h1 he_380 rfl (by kernel_rfl) rfl f rfl rfl rfl rfl (fun p_381 c_382 a g_383 h_384 f => ?_)
     subst h_384
     refine q_loadAt (i := 8) (listed' := #[true, true, true, true, true, true, true, true, true, false, false]) 11 Pl2 g_383 rfl (by kernel_rfl) rfl f rfl rfl rfl (fun a f => ?_)
     obtain ⟨y_385, hy_386, hs_342⟩ := bind_some hs_342
     refine q_call (i := 9) (listed' := #[true, true, true, true, true, true, true, true, true, true, false]) 11 rfl (by kernel_rfl) rfl f rfl rfl rfl Tryd.call130 (fun _ _ w hG_387 m => Wk.spec_l1Edge m (RSl.mono (RSl.mono (RI.mono _)) _ _ _ _ hG_387 h0_0) hy_386) (fun a f => ?_)
     refine q_op (i := 10) (listed' := #[true, true, true, true, true, true, true, true, true, true, true]) 11 rfl (by kernel_rfl) rfl f rfl rfl rfl (fun _ _ _ _ _ => r_not (f.eval rfl)) (fun a f => ?_)
     refine q_end (fun G_388 w hl_389 m => ?_)
     have h1 := RSl.mono (RI.mono _) _ _ _ _ hl_389 h1
     have h0_0 := RSl.mono (RSl.mono (RI.mono _)) _ _ _ _ hl_389 h0_0
     have g_377 := At.mono hl_389 g_377
     have g_383 := At.mono hl_389 g_383
     have m : Mem W G_388 w (Itm.box b_2 29 [v0_0] :: H) := m
     refine l_nil ?_
     rcases cond_some hs_342 with ⟨hc_390, hs_342⟩ | ⟨hc_390, hs_342⟩
     ·refine k_true f rfl hc_390 ?_
      refine k_region ?_
      refine l_op f rfl rfl rfl (r_move (f.eval rfl)) (fun a f => ?_)
      refine l_op f rfl rfl rfl (r_int (f.eval rfl) (f.eval rfl) b_add) (fun a f => ?_)
      refine l_op f rfl rfl rfl (r_assign (f.eval rfl)) (fun a f => ?_)
      refine l_nil ?_
      refine k_region ?_
      refine l_op f rfl rfl rfl (r_move (f.eval rfl)) (fun a f => ?_)
      refine l_op f rfl rfl rfl (r_int (f.eval rfl) (f.eval rfl) b_add) (fun a f => ?_)
      refine l_op f rfl rfl rfl (r_assign (f.eval rfl)) (fun a f => ?_)
      refine l_nil ?_
      obtain rfl := Option.some.inj hs_342
      exact ⟨_, rfl, _, _, rfl, _, (GLe.trans hl_349 hl_389), f.weak ⟨rfl, rfl, rfl, rfl, rfl, trivial⟩, m⟩
     ·refine k_false f rfl hc_390 ?_
      refine k_skip ?_
      refine k_region ?_
      refine l_op f rfl rfl rfl (r_move (f.eval rfl)) (fun a f => ?_)
      refine l_op f rfl rfl rfl (r_int (f.eval rfl) (f.eval rfl) b_add) (fun a f => ?_)
      refine l_op f rfl rfl rfl (r_assign (f.eval rfl)) (fun a f => ?_)
      refine l_nil ?_
      obtain rfl := Option.some.inj hs_342
      exact ⟨_, rfl, _, _, rfl, _, (GLe.trans hl_349 hl_389), f.weak ⟨rfl, rfl, rfl, rfl, rfl, trivial⟩, m⟩
    ·refine k_false f rfl hc_372 ?_
     refine k_exit rfl ?_
     obtain rfl := Option.some.inj hs_342
     obtain rfl := hq_343 _ rfl
     exact ⟨_, rfl, _, hl_349, f.weak ⟨rfl, rfl, rfl, rfl, trivial⟩, m⟩
   ·rintro a w ⟨x_370, rfl, G_369, hl_371, f, m⟩
    have h1 := RSl.mono (RI.mono _) _ _ _ _ hl_371 h1
    have h0_0 := RSl.mono (RSl.mono (RI.mono _)) _ _ _ _ hl_371 h0_0
    refine k_region ?_
    refine l_op f rfl rfl rfl (r_move (f.eval rfl)) (fun a f => ?_)
    refine l_op f rfl rfl rfl (r_int (f.eval rfl) (f.eval rfl) b_add) (fun a f => ?_)
    refine l_op f rfl rfl rfl (r_assign (f.eval rfl)) (fun a f => ?_)
    refine l_nil ?_
    obtain rfl := Option.some.inj hs_194
    exact ⟨_, rfl, _, _, rfl, _, (GLe.trans hl_201 hl_371), f.weak ⟨rfl, rfl, rfl, rfl, trivial⟩, m⟩
  ·refine k_false f rfl hc_298 ?_
   refine k_exit rfl ?_
   have m : Mem W G_198 w H := Mem.drop (H' := [Itm.box b_2 29 [v0_0]]) m
   obtain rfl := Option.some.inj hs_194
   obtain rfl := hq_195 _ rfl
   exact ⟨_, rfl, _, hl_201, f.weak ⟨rfl, trivial⟩, m⟩
 ·rintro a w ⟨x_296, rfl, G_295, hl_297, f, m⟩
  refine k_seq ?_
  refine k_region ?_
  refine l_op f rfl rfl rfl (r_move (f.eval rfl)) (fun a f => ?_)
  refine l_op f rfl rfl rfl (r_assign (f.eval rfl)) (fun a f => ?_)
  refine l_nil ?_
  refine k_ret ?_
  obtain rfl := Option.some.inj hd
  exact ⟨[(.int .i64 x_296)], ⟨f.get _ _ rfl, trivial⟩, f.defers, _, [], hl_297, m, rfl, rfl⟩

theorem Wk.spec_ManyEdges {W w : World} {G : GH} {H : List Itm} {v0_0 : Value} {x0_0 : (List (List Int))} (m : Mem W G w (H)) (h0_0 : RSl (RSl (RI .i64)) G v0_0 x0_0) {y : Int} (hd : D.spec_ManyEdges x0_0 = some y) :
  Calls Tryd.prog 39 #[(.agg #[v0_0])] w (Res W G H (fun _ Ho v => Ho = [] ∧ v = (.int .i64 y))) := by
 refine calls_b (args := [(.agg #[v0_0])]) (N := 9) [.tmp 2] Tryd.func39 rfl rfl (Nat.le_of_ble_eq_true rfl) rfl (fun a f => ?_)
 unfold D.spec_ManyEdges at hd
 refine k_seq ?_
 refine k_region ?_
 refine l_box (cs := [v0_0]) m f rfl rfl rfl (fun b_2 w a m f => ?_)
 refine l_op f rfl rfl rfl (r_assign (f.eval rfl)) (fun a f => ?_)
 refine l_nil ?_
 refine k_seq ?_
 refine k_seq ?_
 refine k_region ?_
 refine l_boxAgg 0 0 (ds := [v0_0]) m Ag29 f rfl rfl rfl rfl rfl (fun a f => ?_)
 obtain ⟨y_3, hy_4, hd⟩ := bind_some hd
 refine l_res f rfl rfl Tryd.call51 (Wk.spec_GraphOk m h0_0 hy_4) (fun v_8 G_5 Ho_9 w hl_6 m hQ_7 a f => ?_)
 obtain ⟨rfl, rfl⟩ := hQ_7
 have h0_0 := RSl.mono (RSl.mono (RI.mono _)) _ _ _ _ hl_6 h0_0
 have m : Mem W G_5 w (Itm.box b_2 29 [v0_0] :: H) := m
 refine l_op f rfl rfl rfl (r_not (f.eval rfl)) (fun a f => ?_)
 refine l_nil ?_
 rcases cond_some hd with ⟨hc_10, hd⟩ | ⟨hc_10, hd⟩
 ·refine k_true f rfl hc_10 ?_
  refine k_seq ?_
  refine k_region ?_
  refine l_op f rfl rfl rfl (r_assign (f.eval rfl)) (fun a f => ?_)
  refine l_nil ?_
  refine k_ret ?_
  have m : Mem W G_5 w H := Mem.drop (H' := [Itm.box b_2 29 [v0_0]]) m
  obtain rfl := Option.some.inj hd
  exact ⟨[(.int .i64 0)], ⟨f.get _ _ rfl, trivial⟩, f.defers, _, [], hl_6, m, rfl, rfl⟩
 ·refine k_false f rfl hc_10 ?_
  refine k_skip ?_
  refine k_seq ?_
  refine k_region ?_
  refine l_boxAgg 0 0 (ds := [v0_0]) m Ag29 f rfl rfl rfl rfl rfl (fun a f => ?_)
  obtain ⟨y_11, hy_12, hd⟩ := bind_some hd
  refine l_res f rfl rfl Tryd.call94 (Wk.spec_l1Edges m h0_0 hy_12) (fun v_16 G_13 Ho_17 w hl_14 m hQ_15 a f => ?_)
  obtain ⟨v_18, it_19, rfl, rfl, o_20⟩ := hQ_15
  have h0_0 := RSl.mono (RSl.mono (RI.mono _)) _ _ _ _ hl_14 h0_0
  have m : Mem W G_13 w (it_19 :: Itm.box b_2 29 [v0_0] :: H) := m
  refine l_own_len 0 m o_20 rfl Tryd.underlying27 f rfl rfl (fun a f => ?_)
  refine l_op f rfl rfl rfl (r_assign (f.eval rfl)) (fun a f => ?_)
  refine l_nil ?_
  refine k_ret ?_
  have m : Mem W G_13 w H := Mem.drop (H' := [it_19, Itm.box b_2 29 [v0_0]]) m
  obtain rfl := Option.some.inj hd
  exact ⟨[(.int .i64 (y_11.length : Int))], ⟨f.get _ _ rfl, trivial⟩, f.defers, _, [], (GLe.trans hl_6 hl_14), m, rfl, rfl⟩

theorem Wk.math_bits_OnesCount32 {W w : World} {G : GH} {H : List Itm} {x0 : Int} (m : Mem W G w (H))  {y : Int} (hd : D.math_bits_OnesCount32 x0 = some y) :
  Calls Tryd.prog 102 #[(.int .u32 x0)] w (Res W G H (fun _ Ho v => Ho = [] ∧ v = (.int .i64 y))) := by
 refine calls_b (args := [(.int .u32 x0)]) (N := 21) [.tmp 2] Tryd.func102 rfl rfl (Nat.le_of_ble_eq_true rfl) rfl (fun a f => ?_)
 unfold D.math_bits_OnesCount32 at hd
 refine k_seq ?_
 refine k_region ?_
 refine l_op f rfl rfl rfl (r_assign (f.eval rfl)) (fun a f => ?_)
 refine l_nil ?_
 refine k_seq ?_
 refine k_draw 19 Follows (by kernel_rfl) m ?_
 refine q_op (i := 0) (listed' := #[true, false, false, false, false, false, false, false, false, false, false, false, false, false, false, false, false, false, false]) 19 rfl (by kernel_rfl) rfl f rfl rfl rfl (fun _ _ _ _ _ => r_move (f.eval rfl)) (fun a f => ?_)
 refine q_op (i := 1) (listed' := #[true, true, false, false, false, false, false, false, false, false, false, false, false, false, false, false, false, false, false]) 19 rfl (by kernel_rfl) rfl f rfl rfl rfl (fun _ _ _ _ _ => r_shr (f.eval rfl) (f.eval rfl) (by decide)) (fun a f => ?_)
 obtain ⟨e_2, he_3, hd⟩ := bind_some hd
 refine q_op (i := 2) (listed' := #[true, true, true, false, false, false, false, false, false, false, false, false, false, false, false, false, false, false, false]) 19 rfl (by kernel_rfl) rfl f rfl rfl rfl (fun _ _ _ _ _ => r_strAt (f.eval rfl) (f.eval rfl) Tryd.underlying9 he_3) (fun a f => ?_)
 refine q_op (i := 3) (listed' := #[true, true, true, true, false, false, false, false, false, false, false, false, false, false, false, false, false, false, false]) 19 rfl (by kernel_rfl) rfl f rfl rfl rfl (fun _ _ _ _ _ => r_move (f.eval rfl)) (fun a f => ?_)
 refine q_op (i := 4) (listed' := #[true, true, true, true, true, false, false, false, false, false, false, false, false, false, false, false, false, false, false]) 19 rfl (by kernel_rfl) rfl f rfl rfl rfl (fun _ _ _ _ _ => r_shr (f.eval rfl) (f.eval rfl) (by decide)) (fun a f => ?_)
 refine q_op (i := 5) (listed' := #[true, true, true, true, true, true, false, false, false, false, false, false, false, false, false, false, false, false, false]) 19 rfl (by kernel_rfl) rfl f rfl rfl rfl (fun _ _ _ _ _ => r_int (f.eval rfl) (f.eval rfl) b_and) (fun a f => ?_)
 obtain ⟨e_5, he_6, hd⟩ := bind_some hd
 refine q_op (i := 6) (listed' := #[true, true, true, true, true, true, true, false, false, false, false, false, false, false, false, false, false, false, false]) 19 rfl (by kernel_rfl) rfl f rfl rfl rfl (fun _ _ _ _ _ => r_strAt (f.eval rfl) (f.eval rfl) Tryd.underlying9 he_6) (fun a f => ?_)
 refine q_op (i := 7) (listed' := #[true, true, true, true, true, true, true, true, false, false, false, false, false, false, false, false, false, false, false]) 19 rfl (by kernel_rfl) rfl f rfl rfl rfl (fun _ _ _ _ _ => r_int (f.eval rfl) (f.eval rfl) b_add) (fun a f => ?_)
 refine q_op (i := 8) (listed' := #[true, true, true, true, true, true, true, true, true, false, false, false, false, false, false, false, false, false, false]) 19 rfl (by kernel_rfl) rfl f rfl rfl rfl (fun _ _ _ _ _ => r_move (f.eval rfl)) (fun a f => ?_)
 refine q_op (i := 9) (listed' := #[true, true, true, true, true, true, true, true, true, true, false, false, false, false, false, false, false, false, false]) 19 rfl (by kernel_rfl) rfl f rfl rfl rfl (fun _ _ _ _ _ => r_shr (f.eval rfl) (f.eval rfl) (by decide)) (fun a f => ?_)
 refine q_op (i := 10) (listed' := #[true, true, true, true, true, true, true, true, true, true, true, false, false, false, false, false, false, false, false]) 19 rfl (by kernel_rfl) rfl f rfl rfl rfl (fun _ _ _ _ _ => r_int (f.eval rfl) (f.eval rfl) b_and) (fun a f => ?_)
 obtain ⟨e_8, he_9, hd⟩ := bind_some hd
 refine q_op (i := 11) (listed' := #[true, true, true, true, true, true, true, true, true, true, true, true, false, false, false, false, false, false, false]) 19 rfl (by kernel_rfl) rfl f rfl rfl rfl (fun _ _ _ _ _ => r_strAt (f.eval rfl) (f.eval rfl) Tryd.underlying9 he_9) (fun a f => ?_)
 refine q_op (i := 12) (listed' := #[true, true, true, true, true, true, true, true, true, true, true, true, true, false, false, false, false, false, false]) 19 rfl (by kernel_rfl) rfl f rfl rfl rfl (fun _ _ _ _ _ => r_int (f.eval rfl) (f.eval rfl) b_add) (fun a f => ?_)
 refine q_op (i := 13) (listed' := #[true, true, true, true, true, true, true, true, true, true, true, true, true, true, false, false, false, false, false]) 19 rfl (by kernel_rfl) rfl f rfl rfl rfl (fun _ _ _ _ _ => r_move (f.eval rfl)) (fun a f => ?_)
 refine q_op (i := 14) (listed' := #[true, true, true, true, true, true, true, true, true, true, true, true, true, true, true, false, false, false, false]) 19 rfl (by kernel_rfl) rfl f rfl rfl rfl (fun _ _ _ _ _ => r_int (f.eval rfl) (f.eval rfl) b_and) (fun a f => ?_)
 obtain ⟨e_10, he_11, hd⟩ := bind_some hd
 refine q_op (i := 15) (listed' := #[true, true, true, true, true, true, true, true, true, true, true, true, true, true, true, true, false, false, false]) 19 rfl (by kernel_rfl) rfl f rfl rfl rfl (fun _ _ _ _ _ => r_strAt (f.eval rfl) (f.eval rfl) Tryd.underlying9 he_11) (fun a f => ?_)
 refine q_op (i := 16) (listed' := #[true, true, true, true, true, true, true, true, true, true, true, true, true, true, true, true, true, false, false]) 19 rfl (by kernel_rfl) rfl f rfl rfl rfl (fun _ _ _ _ _ => r_int (f.eval rfl) (f.eval rfl) b_add) (fun a f => ?_)
 refine q_op (i := 17) (listed' := #[true, true, true, true, true, true, true, true, true, true, true, true, true, true, true, true, true, true, false]) 19 rfl (by kernel_rfl) rfl f rfl rfl rfl (fun _ _ _ _ _ => r_conv (f.eval rfl) ⟨_, Tryd.underlying5⟩ Tryd.underlying3) (fun a f => ?_)
 refine q_op (i := 18) (listed' := #[true, true, true, true, true, true, true, true, true, true, true, true, true, true, true, true, true, true, true]) 19 rfl (by kernel_rfl) rfl f rfl rfl rfl (fun _ _ _ _ _ => r_assign (f.eval rfl)) (fun a f => ?_)
 refine q_end (fun G_12 w hl_13 m => ?_)
 have m : Mem W G_12 w (H) := m
 refine l_nil ?_
 refine k_ret ?_
 obtain rfl := Option.some.inj hd
 exact ⟨[(.int .i64 (IntKind.i64.wrap (IntKind.u8.wrap ((IntKind.u8.wrap ((IntKind.u8.wrap (e_2 + e_5)) + e_8)) + e_10))))], ⟨f.get _ _ rfl, trivial⟩, f.defers, _, [], hl_13, m, rfl, rfl⟩

theorem Wk.impl_vset_size {W w : World} {G : GH} {H : List Itm} {x0 : Int} (m : Mem W G w (H))  {y : Int} (hd : D.impl_vset_size x0 = some y) :
  Calls Tryd.prog 50 #[(.int .u32 x0)] w (Res W G H (fun _ Ho v => Ho = [] ∧ v = (.int .i64 y))) := by
 refine calls_b (args := [(.int .u32 x0)]) (N := 5) [.tmp 2] Tryd.func50 rfl rfl (Nat.le_of_ble_eq_true rfl) rfl (fun a f => ?_)
 unfold D.impl_vset_size at hd
 refine k_seq ?_
 refine k_region ?_
 refine l_op f rfl rfl rfl (r_assign (f.eval rfl)) (fun a f => ?_)
 refine l_nil ?_
 refine k_seq ?_
 refine k_region ?_
 refine l_op f rfl rfl rfl (r_move (f.eval rfl)) (fun a f => ?_)
 obtain ⟨y_1, hy_2, hd⟩ := bind_some hd
 refine l_res f rfl rfl Tryd.call102 (Wk.math_bits_OnesCount32 m  hy_2) (fun v_6 G_3 Ho_7 w hl_4 m hQ_5 a f => ?_)
 obtain ⟨rfl, rfl⟩ := hQ_5
 have m : Mem W G_3 w (H) := m
 refine l_op f rfl rfl rfl (r_assign (f.eval rfl)) (fun a f => ?_)
 refine l_nil ?_
 refine k_ret ?_
 obtain rfl := Option.some.inj hd
 exact ⟨[(.int .i64 y_1)], ⟨f.get _ _ rfl, trivial⟩, f.defers, _, [], hl_4, m, rfl, rfl⟩

theorem Wk.impl_widthOf {W w : World} {G : GH} {H : List Itm} {v0 : Value} {v1 : Value} {x0 : (List Int)} {x1 : (List Int)} (hW : TabW W) (m : Mem W G w (H)) (h0 : RSl (RI .u32) G v0 x0) (h1 : RSl (RI .i64) G v1 x1) {y : Int} (hd : D.impl_widthOf x0 x1 = some y) :
  Calls Tryd.prog 93 #[v0, v1] w (Res W G H (fun _ Ho v => Ho = [] ∧ v = (.int .i64 y))) := by
 refine calls_b (args := [v0, v1]) (N := 28) [.tmp 4] Tryd.func93 rfl rfl (Nat.le_of_ble_eq_true rfl) rfl (fun a f => ?_)
 unfold D.impl_widthOf at hd
 refine k_seq ?_
 refine k_region ?_
 refine l_op f rfl rfl rfl (r_assign (f.eval rfl)) (fun a f => ?_)
 refine l_nil ?_
 refine k_seq ?_
 refine k_region ?_
 refine l_op f rfl rfl rfl (r_move (f.eval rfl)) (fun a f => ?_)
 refine l_op f rfl rfl rfl (r_move (f.eval rfl)) (fun a f => ?_)
 obtain ⟨y_1, hy_2, hd⟩ := bind_some hd
 refine l_res f rfl rfl Tryd.call92 (Wk.impl_elimination hW m h0 h1 hy_2) (fun v_6 G_3 Ho_7 w hl_4 m hQ_5 a f => ?_)
 obtain ⟨v_8, it_9, v_12, it_13, rfl, rfl, o_10, o_14⟩ := hQ_5
 have h0 := RSl.mono (RI.mono _) _ _ _ _ hl_4 h0
 have h1 := RSl.mono (RI.mono _) _ _ _ _ hl_4 h1
 have m : Mem W G_3 w (it_9 :: it_13 :: H) := m
 refine l_op f rfl rfl rfl (r_move (f.eval rfl)) (fun a f => ?_)
 refine l_op f rfl rfl rfl (r_extract (f.eval rfl) rfl) (fun a f => ?_)
 refine l_op f rfl rfl rfl (r_extract (f.eval rfl) rfl) (fun a f => ?_)
 refine l_op f rfl rfl rfl (r_assign (f.eval rfl)) (fun a f => ?_)
 refine l_op f rfl rfl rfl (r_assign (f.eval rfl)) (fun a f => ?_)
 refine l_nil ?_
 refine k_seq ?_
 refine k_region ?_
 refine l_op f rfl rfl rfl (r_assign (f.eval rfl)) (fun a f => ?_)
 refine l_nil ?_
 refine k_seq ?_
 refine k_seq ?_
 refine k_region ?_
 refine l_op f rfl rfl rfl (r_move (f.eval rfl)) (fun a f => ?_)
 refine l_own_len 1 m o_14 rfl Tryd.underlying61 f rfl rfl (fun a f => ?_)
 refine l_op f rfl rfl rfl (r_move (f.eval rfl)) (fun a f => ?_)
 refine l_nil ?_
 obtain ⟨q_47, hl_48, hd⟩ := bind_some hd
 refine k_cut (fun a w => ∃ x_72 : Int, x_72 = q_47 ∧ ∃ (G_71 : GH), GLe G_3 G_71 ∧ Fr a 28 [(7, (.int .i64 x_72))] ∧ Mem W G_71 w (H)) ?_ ?_
 ·refine k_block ?_
  have m : Mem W G_3 w (it_13 :: it_9 :: H) := m.front 1 rfl
  have m : Mem W G_3 w (it_13 :: H) := m.eraseAt 1
  refine k_loop (fun s_51 a w => ∃ x_54 : Int, ∃ x_55 : Int, (x_54, x_55) = s_51 ∧ ∃ (G_53 : GH), GLe G_3 G_53 ∧ Fr a 28 [(7, (.int .i64 x_54)), (16, v_12), (17, (.int .i64 (y_1.2.length : Int))), (18, (.int .i64 x_55))] ∧ Mem W G_53 w (it_13 :: H)) hl_48 ⟨_, _, rfl, _, (GLe.refl _), f.weak ⟨rfl, rfl, rfl, rfl, trivial⟩, m⟩ ?_
  clear hl_48 f m
  rintro s_51 o_52 hs_49 hq_50 a w ⟨x_54, x_55, rfl, G_53, hl_56, f, m⟩
  have o_14 := Ow.mono (RI.mono _) hl_56 o_14
  refine k_seq ?_
  refine k_region ?_
  refine l_op f rfl rfl rfl (r_int (f.eval rfl) (f.eval rfl) b_lss) (fun a f => ?_)
  refine l_nil ?_
  refine k_seq ?_
  rcases cond_some hs_49 with ⟨hc_74, hs_49⟩ | ⟨hc_74, hs_49⟩
  ·refine k_true f rfl hc_74 ?_
   refine k_skip ?_
   refine k_seq ?_
   refine k_block ?_
   refine k_seq ?_
   refine k_region ?_
   obtain ⟨e_75, he_76, hs_49⟩ := bind_some hs_49
   refine l_own_at 0 m o_14 rfl T61 f rfl rfl rfl he_76 (fun p_77 a ha_78 f => ?_)
   refine l_own_load 0 m o_14 rfl Pl66 f rfl rfl ha_78 he_76 (fun c_79 a h_80 f => ?_)
   subst h_80
   refine l_op f rfl rfl rfl (r_assign (f.eval rfl)) (fun a f => ?_)
   refine l_nil ?_
   refine k_region ?_
   refine l_op f rfl rfl rfl (r_move (f.eval rfl)) (fun a f => ?_)
   refine l_op f rfl rfl rfl (r_move (f.eval rfl)) (fun a f => ?_)
   obtain ⟨y_81, hy_82, hs_49⟩ := bind_some hs_49
   refine l_res f rfl rfl Tryd.call50 (Wk.impl_vset_size m  hy_82) (fun v_86 G_83 Ho_87 w hl_84 m hQ_85 a f => ?_)
   obtain ⟨rfl, rfl⟩ := hQ_85
   have o_14 := Ow.mono (RI.mono _) hl_84 o_14
   have m : Mem W G_83 w (it_13 :: H) := m
   refine l_op f rfl rfl rfl (r_max2 (f.eval rfl) (f.eval rfl)) (fun a f => ?_)
   refine l_op f rfl rfl rfl (r_assign (f.eval rfl)) (fun a f => ?_)
   refine l_nil ?_
   refine k_region ?_
   refine l_op f rfl rfl rfl (r_int (f.eval rfl) (f.eval rfl) b_add) (fun a f => ?_)
   refine l_op f rfl rfl rfl (r_move (f.eval rfl)) (fun a f => ?_)
   refine l_nil ?_
   obtain rfl := Option.some.inj hs_49
   exact ⟨_, rfl, _, _, rfl, _, (GLe.trans hl_56 hl_84), f.weak ⟨rfl, rfl, rfl, rfl, trivial⟩, m⟩
  ·refine k_false f rfl hc_74 ?_
   refine k_exit rfl ?_
   have m : Mem W G_53 w H := Mem.drop (H' := [it_13]) m
   obtain rfl := Option.some.inj hs_49
   obtain rfl := hq_50 _ rfl
   exact ⟨_, rfl, _, hl_56, f.weak ⟨rfl, trivial⟩, m⟩
 ·rintro a w ⟨x_72, rfl, G_71, hl_73, f, m⟩
  refine k_seq ?_
  refine k_region ?_
  refine l_op f rfl rfl rfl (r_move (f.eval rfl)) (fun a f => ?_)
  refine l_op f rfl rfl rfl (r_assign (f.eval rfl)) (fun a f => ?_)
  refine l_nil ?_
  refine k_ret ?_
  obtain rfl := Option.some.inj hd
  exact ⟨[(.int .i64 x_72)], ⟨f.get _ _ rfl, trivial⟩, f.defers, _, [], (GLe.trans hl_4 hl_73), m, rfl, rfl⟩

theorem Wk.impl_OrderWidth {W w : World} {G : GH} {H : List Itm} {v0_0 : Value} {v1 : Value} {x0_0 : (List (List Int))} {x1 : (List Int)} (hW : TabW W) (m : Mem W G w (H)) (h0_0 : RSl (RSl (RI .i64)) G v0_0 x0_0) (h1 : RSl (RI .i64) G v1 x1) {y : Int} (hd : D.impl_OrderWidth x0_0 x1 = some y) :
  Calls Tryd.prog 38 #[(.agg #[v0_0]), v1] w (Res W G H (fun _ Ho v => Ho = [] ∧ v = (.int .i64 y))) := by
 refine calls_b (args := [(.agg #[v0_0]), v1]) (N := 14) [.tmp 4] Tryd.func38 rfl rfl (Nat.le_of_ble_eq_true rfl) rfl (fun a f => ?_)
 unfold D.impl_OrderWidth at hd
 refine k_seq ?_
 refine k_region ?_
 refine l_box (cs := [v0_0]) m f rfl rfl rfl (fun b_2 w a m f => ?_)
 refine l_op f rfl rfl rfl (r_assign (f.eval rfl)) (fun a f => ?_)
 refine l_nil ?_
 refine k_seq ?_
 refine k_seq ?_
 refine k_region ?_
 refine l_boxAgg 0 0 (ds := [v0_0]) m Ag29 f rfl rfl rfl rfl rfl (fun a f => ?_)
 refine l_op f rfl rfl rfl (r_move (f.eval rfl)) (fun a f => ?_)
 obtain ⟨y_3, hy_4, hd⟩ := bind_some hd
 refine l_res f rfl rfl Tryd.call43 (Wk.impl_OrderOk m h0_0 h1 hy_4) (fun v_8 G_5 Ho_9 w hl_6 m hQ_7 a f => ?_)
 obtain ⟨rfl, rfl⟩ := hQ_7
 have h0_0 := RSl.mono (RSl.mono (RI.mono _)) _ _ _ _ hl_6 h0_0
 have h1 := RSl.mono (RI.mono _) _ _ _ _ hl_6 h1
 have m : Mem W G_5 w (Itm.box b_2 29 [v0_0] :: H) := m
 refine l_op f rfl rfl rfl (r_not (f.eval rfl)) (fun a f => ?_)
 refine l_nil ?_
 rcases cond_some hd with ⟨hc_10, hd⟩ | ⟨hc_10, hd⟩
 ·refine k_true f rfl hc_10 ?_
  refine k_seq ?_
  refine k_region ?_
  refine l_op f rfl rfl rfl (r_assign (f.eval rfl)) (fun a f => ?_)
  refine l_nil ?_
  refine k_ret ?_
  have m : Mem W G_5 w H := Mem.drop (H' := [Itm.box b_2 29 [v0_0]]) m
  obtain rfl := Option.some.inj hd
  exact ⟨[(.int .i64 (-1))], ⟨f.get _ _ rfl, trivial⟩, f.defers, _, [], hl_6, m, rfl, rfl⟩
 ·refine k_false f rfl hc_10 ?_
  refine k_skip ?_
  refine k_seq ?_
  refine k_region ?_
  refine l_boxAgg 0 0 (ds := [v0_0]) m Ag29 f rfl rfl rfl rfl rfl (fun a f => ?_)
  obtain ⟨y_11, hy_12, hd⟩ := bind_some hd
  refine l_res f rfl rfl Tryd.call46 (Wk.impl_netsOf m h0_0 hy_12) (fun v_16 G_13 Ho_17 w hl_14 m hQ_15 a f => ?_)
  obtain ⟨v_18, it_19, rfl, rfl, o_20⟩ := hQ_15
  have h0_0 := RSl.mono (RSl.mono (RI.mono _)) _ _ _ _ hl_14 h0_0
  have h1 := RSl.mono (RI.mono _) _ _ _ _ hl_14 h1
  have m : Mem W G_13 w (it_19 :: Itm.box b_2 29 [v0_0] :: H) := m
  refine l_op f rfl rfl rfl (r_move (f.eval rfl)) (fun a f => ?_)
  obtain ⟨y_22, hy_23, hd⟩ := bind_some hd
  refine l_res f rfl rfl Tryd.call47 (Wk.impl_narrow m h1 hy_23) (fun v_27 G_24 Ho_28 w hl_25 m hQ_26 a f => ?_)
  obtain ⟨v_29, it_30, rfl, rfl, o_31⟩ := hQ_26
  have h0_0 := RSl.mono (RSl.mono (RI.mono _)) _ _ _ _ hl_25 h0_0
  have h1 := RSl.mono (RI.mono _) _ _ _ _ hl_25 h1
  have o_20 := Ow.mono (RI.mono _) hl_25 o_20
  have m : Mem W G_24 w (it_30 :: it_19 :: Itm.box b_2 29 [v0_0] :: H) := m
  obtain ⟨y_33, hy_34, hd⟩ := bind_some hd
  refine l_res f rfl rfl Tryd.call93 (Ow.lendCall (RI.mono _) 1 o_20 m rfl (fun G_35 hl_36 m h_37 => (Ow.lendCall (RI.mono _) 0 (Ow.mono (RI.mono _) hl_36 o_31) m rfl (fun G_38 hl_39 m h_40 => Wk.impl_widthOf hW m (RSl.mono (RI.mono _) _ _ _ _ hl_39 h_37) h_40 hy_34) (fun _ _ _ _ h => h))) (fun _ _ _ _ h => h)) (fun v_44 G_41 Ho_45 w hl_42 m hQ_43 a f => ?_)
  obtain ⟨rfl, rfl⟩ := hQ_43
  have h0_0 := RSl.mono (RSl.mono (RI.mono _)) _ _ _ _ hl_42 h0_0
  have h1 := RSl.mono (RI.mono _) _ _ _ _ hl_42 h1
  have o_31 := Ow.mono (RI.mono _) hl_42 o_31
  have o_20 := Ow.mono (RI.mono _) hl_42 o_20
  have m : Mem W G_41 w (it_30 :: it_19 :: Itm.box b_2 29 [v0_0] :: H) := m
  refine l_op f rfl rfl rfl (r_assign (f.eval rfl)) (fun a f => ?_)
  refine l_nil ?_
  refine k_ret ?_
  have m : Mem W G_41 w H := Mem.drop (H' := [it_30, it_19, Itm.box b_2 29 [v0_0]]) m
  obtain rfl := Option.some.inj hd
  exact ⟨[(.int .i64 y_33)], ⟨f.get _ _ rfl, trivial⟩, f.defers, _, [], (GLe.trans hl_6 (GLe.trans hl_14 (GLe.trans hl_25 hl_42))), m, rfl, rfl⟩

end Go.Proofs.YtehnblgkgaakeaaDoor

set_option maxRecDepth 100000
namespace Go.Proofs.YtehnblgkgaakeaaDoor
open Go Go.Sx


end Go.Proofs.YtehnblgkgaakeaaDoor
