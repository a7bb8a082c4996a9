/- Parts of the proof: ECW, EDW. -/
import Derived.Test.YtehnblgkgaakeaaDoorPb5
import Derived.Test.YtehnblgkgaakeaaDoorProg
import Derived.KernelRfl
set_option linter.unusedVariables false
set_option linter.unusedSimpArgs false
set_option linter.unusedSectionVars false
set_option maxRecDepth 100000
namespace Go.Proofs.YtehnblgkgaakeaaDoor
open Go Go.Sx
theorem T22 : SlT Tryd.prog 22 5 1 1 (.int .u8 0) := ⟨Tryd.underlying22, Tryd.t5, by kernel_rfl, by kernel_rfl, by kernel_rfl, by kernel_rfl⟩
theorem Pl26 : Plain Tryd.prog 26 := Tryd.isAgg26
theorem Pl22 : Plain Tryd.prog 22 := Tryd.isAgg22

theorem Wk.laws_big {W w : World} {G : GH} {H : List Itm} {v0 : Value} {x0 : (List Int)} (m : Mem W G w (H)) (h0 : RSl (RI .u8) G v0 x0) {y : Bool} (hd : D.laws_big x0 = some y) :
  Calls Tryd.prog 6 #[v0] w (Res W G H (fun _ Ho v => Ho = [] ∧ v = (.bool y))) := by
 refine calls_b (args := [v0]) (N := 6) [.tmp 2] Tryd.func6 rfl rfl (Nat.le_of_ble_eq_true rfl) rfl (fun a f => ?_)
 unfold D.laws_big at hd
 refine k_seq ?_
 refine k_region ?_
 refine l_op f rfl rfl rfl (r_assign (f.eval rfl)) (fun a f => ?_)
 refine l_nil ?_
 refine k_seq ?_
 refine k_region ?_
 refine l_op f rfl rfl rfl (r_move (f.eval rfl)) (fun a f => ?_)
 refine l_len Tryd.underlying22 f rfl rfl h0 (fun a f => ?_)
 refine l_op f rfl rfl rfl (r_int (f.eval rfl) (f.eval rfl) b_gtr) (fun a f => ?_)
 refine l_op f rfl rfl rfl (r_assign (f.eval rfl)) (fun a f => ?_)
 refine l_nil ?_
 refine k_ret ?_
 obtain rfl := Option.some.inj hd
 exact ⟨[(.bool (decide ((4096 : Int) < (x0.length : Int))))], ⟨f.get _ _ rfl, trivial⟩, f.defers, _, [], (GLe.refl _), m, rfl, rfl⟩

theorem Wk.laws_roll {W w : World} {G : GH} {H : List Itm} {v0 : Value} {x0 : (List Int)} {x1 : Int} (m : Mem W G w (H)) (h0 : RSl (RI .u8) G v0 x0) {y : ((List Int)) × Int × Int} (hd : D.laws_roll x0 x1 = some y) :
  Calls Tryd.prog 7 #[v0, (.int .u64 x1)] w (Res W G H (fun G' Ho v => ∃ r0 : Value, ∃ c1 : Nat, Ho = [Itm.box c1 55 [r0, (.int .i64 y.2.1), (.int .u64 y.2.2)]] ∧ v = (.pointer (some ⟨c1, 0, none⟩)) ∧ RSl (RI .u8) G' r0 y.1)) := by
 refine calls_b (args := [v0, (.int .u64 x1)]) (N := 38) [.tmp 4] Tryd.func7 rfl rfl (Nat.le_of_ble_eq_true rfl) rfl (fun a f => ?_)
 unfold D.laws_roll at hd
 refine k_seq ?_
 refine k_region ?_
 refine l_op f rfl rfl rfl (r_assign (f.eval rfl)) (fun a f => ?_)
 refine l_nil ?_
 refine k_seq ?_
 refine k_region ?_
 refine l_op f rfl rfl rfl (r_move (f.eval rfl)) (fun a f => ?_)
 refine l_op f rfl rfl rfl (r_move (f.eval rfl)) (fun a f => ?_)
 refine l_op f rfl rfl rfl (r_int (f.eval rfl) (f.eval rfl) b_mul) (fun a f => ?_)
 refine l_op f rfl rfl rfl (r_move (f.eval rfl)) (fun a f => ?_)
 refine l_len Tryd.underlying22 f rfl rfl h0 (fun a f => ?_)
 refine l_op f rfl rfl rfl (r_conv (f.eval rfl) ⟨_, Tryd.underlying3⟩ Tryd.underlying26) (fun a f => ?_)
 refine l_op f rfl rfl rfl (r_int (f.eval rfl) (f.eval rfl) b_add) (fun a f => ?_)
 have hb_1 : ∀ w, (Instr.build 55 #[(0, v0), (2, (.int .u64 (IntKind.u64.wrap ((IntKind.u64.wrap (x1 * 7919)) + (IntKind.u64.wrap (x0.length : Int))))))]).run Tryd.prog w = .ok (.agg #[v0, (.int .i64 0), (.int .u64 (IntKind.u64.wrap ((IntKind.u64.wrap (x1 * 7919)) + (IntKind.u64.wrap (x0.length : Int)))))]) w := by intro w; simp [Instr.build, Instr.fill, h0.cells, cells_int, cells_bool, cells_string, cells_slice, cells_pointer, cells_agg]
 refine l_build f rfl rfl hb_1 (fun a f => ?_)
 refine l_box (cs := [v0, (.int .i64 0), (.int .u64 (IntKind.u64.wrap ((IntKind.u64.wrap (x1 * 7919)) + (IntKind.u64.wrap (x0.length : Int)))))]) m f rfl rfl rfl (fun b_3 w a m f => ?_)
 refine l_op f rfl rfl rfl (r_assign (f.eval rfl)) (fun a f => ?_)
 refine l_nil ?_
 refine k_seq ?_
 refine k_seq ?_
 refine k_region ?_
 refine l_op f rfl rfl rfl (r_assign (f.eval rfl)) (fun a f => ?_)
 refine l_nil ?_
 obtain ⟨q_25, hl_26, hd⟩ := bind_some hd
 refine k_cut (fun a w => ∃ x_45 : Int, x_45 = q_25 ∧ ∃ (G_44 : GH), GLe G G_44 ∧ Fr a 38 [(5, (.pointer (some ⟨b_3, 0, none⟩)))] ∧ Mem W G_44 w (Itm.box b_3 55 [v0, (.int .i64 0), (.int .u64 x_45)] :: H)) ?_ ?_
 ·refine k_block ?_
  refine k_loop (fun s_29 a w => ∃ x_32 : Int, ∃ x_33 : Int, (x_32, x_33) = s_29 ∧ ∃ (G_31 : GH), GLe G G_31 ∧ Fr a 38 [(0, v0), (5, (.pointer (some ⟨b_3, 0, none⟩))), (6, (.int .i64 x_32))] ∧ Mem W G_31 w (Itm.box b_3 55 [v0, (.int .i64 0), (.int .u64 x_33)] :: H)) hl_26 ⟨_, _, rfl, _, (GLe.refl _), f.weak ⟨rfl, rfl, rfl, trivial⟩, m⟩ ?_
  clear hl_26 f m
  rintro s_29 o_30 hs_27 hq_28 a w ⟨x_32, x_33, rfl, G_31, hl_34, f, m⟩
  have h0 := RSl.mono (RI.mono _) _ _ _ _ hl_34 h0
  refine k_seq ?_
  refine k_seq ?_
  refine k_region ?_
  refine l_op f rfl rfl rfl (r_move (f.eval rfl)) (fun a f => ?_)
  refine l_op f rfl rfl rfl (r_move (f.eval rfl)) (fun a f => ?_)
  refine l_len Tryd.underlying22 f rfl rfl h0 (fun a f => ?_)
  refine l_op f rfl rfl rfl (r_int (f.eval rfl) (f.eval rfl) b_lss) (fun a f => ?_)
  refine l_nil ?_
  rcases cond_some hs_27 with ⟨hc_47, hs_27⟩ | ⟨hc_47, hs_27⟩
  ·refine k_true f rfl hc_47 ?_
   refine k_skip ?_
   refine k_seq ?_
   refine k_block ?_
   refine k_draw 15 Follows (by kernel_rfl) m ?_
   refine q_op (i := 0) (listed' := #[true, false, false, false, false, false, false, false, false, false, false, false, false, false, false, false]) 15 rfl (by kernel_rfl) rfl f rfl rfl rfl (fun _ _ _ _ _ => r_move (f.eval rfl)) (fun a f => ?_)
   refine q_op (i := 1) (listed' := #[true, true, false, false, false, false, false, false, false, false, false, false, false, false, false, false]) 15 rfl (by kernel_rfl) rfl f rfl rfl rfl (fun _ _ _ _ _ => r_move (f.eval rfl)) (fun a f => ?_)
   refine q_op (i := 2) (listed' := #[true, true, true, false, false, false, false, false, false, false, false, false, false, false, false, false]) 15 rfl (by kernel_rfl) rfl f rfl rfl rfl (fun _ _ _ _ _ => r_nilCheck (f.eval rfl)) (fun a f => ?_)
   refine q_fieldAddr (i := 3) (listed' := #[true, true, true, true, false, false, false, false, false, false, false, false, false, false, false, false]) 15 Tryd.underlying55 rfl Tryd.sizeOf26 (by decide) rfl (by kernel_rfl) rfl f rfl rfl rfl (fun a f => ?_)
   refine q_boxCell (i := 4) (listed' := #[true, true, true, true, true, false, false, false, false, false, false, false, false, false, false, false]) 15 0 Pl26 rfl rfl rfl (by kernel_rfl) rfl f rfl rfl rfl (fun a f => ?_)
   refine q_op (i := 5) (listed' := #[true, true, true, true, true, true, false, false, false, false, false, false, false, false, false, false]) 15 rfl (by kernel_rfl) rfl f rfl rfl rfl (fun _ _ _ _ _ => r_int (f.eval rfl) (f.eval rfl) b_mul) (fun a f => ?_)
   refine q_op (i := 6) (listed' := #[true, true, true, true, true, true, true, false, false, false, false, false, false, false, false, false]) 15 rfl (by kernel_rfl) rfl f rfl rfl rfl (fun _ _ _ _ _ => r_move (f.eval rfl)) (fun a f => ?_)
   refine q_op (i := 7) (listed' := #[true, true, true, true, true, true, true, true, false, false, false, false, false, false, false, false]) 15 rfl (by kernel_rfl) rfl f rfl rfl rfl (fun _ _ _ _ _ => r_move (f.eval rfl)) (fun a f => ?_)
   obtain ⟨e_48, he_49, hs_27⟩ := bind_some hs_27
   refine q_at (i := 8) (listed' := #[true, true, true, true, true, true, true, true, true, false, false, false, false, false, false, false]) 15 T22 h0 he_49 rfl (by kernel_rfl) rfl f rfl rfl rfl rfl (fun p_50 c_51 a g_52 h_53 f => ?_)
   subst h_53
   refine q_loadAt (i := 9) (listed' := #[true, true, true, true, true, true, true, true, true, true, false, false, false, false, false, false]) 15 Pl5 g_52 rfl (by kernel_rfl) rfl f rfl rfl rfl (fun a f => ?_)
   refine q_op (i := 10) (listed' := #[true, true, true, true, true, true, true, true, true, true, true, false, false, false, false, false]) 15 rfl (by kernel_rfl) rfl f rfl rfl rfl (fun _ _ _ _ _ => r_conv (f.eval rfl) ⟨_, Tryd.underlying5⟩ Tryd.underlying26) (fun a f => ?_)
   refine q_op (i := 11) (listed' := #[true, true, true, true, true, true, true, true, true, true, true, true, false, false, false, false]) 15 rfl (by kernel_rfl) rfl f rfl rfl rfl (fun _ _ _ _ _ => r_int (f.eval rfl) (f.eval rfl) b_add) (fun a f => ?_)
   refine q_op (i := 12) (listed' := #[true, true, true, true, true, true, true, true, true, true, true, true, true, false, false, false]) 15 rfl (by kernel_rfl) rfl f rfl rfl rfl (fun _ _ _ _ _ => r_int (f.eval rfl) (f.eval rfl) b_add) (fun a f => ?_)
   refine q_op (i := 13) (listed' := #[true, true, true, true, true, true, true, true, true, true, true, true, true, true, false, false]) 15 rfl (by kernel_rfl) rfl f rfl rfl rfl (fun _ _ _ _ _ => r_nilCheck (f.eval rfl)) (fun a f => ?_)
   refine q_fieldAddr (i := 14) (listed' := #[true, true, true, true, true, true, true, true, true, true, true, true, true, true, true, false]) 15 Tryd.underlying55 rfl Tryd.sizeOf26 (by decide) rfl (by kernel_rfl) rfl f rfl rfl rfl (fun a f => ?_)
   refine q_end (fun G_54 w hl_55 m => ?_)
   have h0 := RSl.mono (RI.mono _) _ _ _ _ hl_55 h0
   have g_52 := At.mono hl_55 g_52
   have m : Mem W G_54 w (Itm.box b_3 55 [v0, (.int .i64 0), (.int .u64 x_33)] :: H) := m
   refine l_boxStore 0 2 (ds := [(.int .u64 (IntKind.u64.wrap ((IntKind.u64.wrap ((IntKind.u64.wrap (x_33 * 1099511628211)) + (IntKind.u64.wrap e_48))) + 3)))]) m Tryd.sizeOf26 f rfl rfl rfl (ones_cons rfl ones_nil) rfl (Nat.le_of_ble_eq_true rfl) rfl (fun w m => ?_)
   have m : Mem W G_54 w (Itm.box b_3 55 [v0, (.int .i64 0), (.int .u64 (IntKind.u64.wrap ((IntKind.u64.wrap ((IntKind.u64.wrap (x_33 * 1099511628211)) + (IntKind.u64.wrap e_48))) + 3)))] :: H) := m
   refine l_nil ?_
   refine k_region ?_
   refine l_op f rfl rfl rfl (r_move (f.eval rfl)) (fun a f => ?_)
   refine l_op f rfl rfl rfl (r_int (f.eval rfl) (f.eval rfl) b_add) (fun a f => ?_)
   refine l_op f rfl rfl rfl (r_assign (f.eval rfl)) (fun a f => ?_)
   refine l_nil ?_
   obtain rfl := Option.some.inj hs_27
   exact ⟨_, rfl, _, _, rfl, _, (GLe.trans hl_34 hl_55), f.weak ⟨rfl, rfl, rfl, trivial⟩, m⟩
  ·refine k_false f rfl hc_47 ?_
   refine k_exit rfl ?_
   obtain rfl := Option.some.inj hs_27
   obtain rfl := hq_28 _ rfl
   exact ⟨_, rfl, _, hl_34, f.weak ⟨rfl, trivial⟩, m⟩
 ·rintro a w ⟨x_45, rfl, G_44, hl_46, f, m⟩
  have h0 := RSl.mono (RI.mono _) _ _ _ _ hl_46 h0
  refine k_seq ?_
  refine k_region ?_
  refine l_op f rfl rfl rfl (r_move (f.eval rfl)) (fun a f => ?_)
  refine l_op f rfl rfl rfl (r_assign (f.eval rfl)) (fun a f => ?_)
  refine l_nil ?_
  refine k_ret ?_
  obtain rfl := Option.some.inj hd
  exact ⟨[(.pointer (some ⟨b_3, 0, none⟩))], ⟨f.get _ _ rfl, trivial⟩, f.defers, _, [Itm.box b_3 55 [v0, (.int .i64 0), (.int .u64 x_45)]], hl_46, m, _, _, rfl, rfl, h0⟩

theorem Wk.laws_dice_below {W w : World} {G : GH} {H : List Itm} {v0_0 : Value} {b0 : Nat} {x0_0 : (List Int)} {x0_1 : Int} {x0_2 : Int} {x1 : Int} (m : Mem W G w (Itm.box b0 55 [v0_0, (.int .i64 x0_1), (.int .u64 x0_2)] :: H)) (h0_0 : RSl (RI .u8) G v0_0 x0_0) {y : Int × ((List Int)) × Int × Int} (hd : D.laws_dice_below x0_0 x0_1 x0_2 x1 = some y) :
  Calls Tryd.prog 41 #[(.pointer (some ⟨b0, 0, none⟩)), (.int .i64 x1)] w (Res W G H (fun G' Ho v => ∃ r0 : Value, Ho = [Itm.box b0 55 [r0, (.int .i64 y.2.2.1), (.int .u64 y.2.2.2)]] ∧ v = (.int .i64 y.1) ∧ RSl (RI .u8) G' r0 y.2.1)) := by
 refine calls_b (args := [(.pointer (some ⟨b0, 0, none⟩)), (.int .i64 x1)]) (N := 56) [.tmp 4] Tryd.func41 rfl rfl (Nat.le_of_ble_eq_true rfl) rfl (fun a f => ?_)
 unfold D.laws_dice_below at hd
 refine k_seq ?_
 refine k_region ?_
 refine l_op f rfl rfl rfl (r_assign (f.eval rfl)) (fun a f => ?_)
 refine l_nil ?_
 refine k_seq ?_
 refine k_region ?_
 refine l_op f rfl rfl rfl (r_move (f.eval rfl)) (fun a f => ?_)
 refine l_op f rfl rfl rfl (r_move (f.eval rfl)) (fun a f => ?_)
 refine l_op f rfl rfl rfl (r_nilCheck (f.eval rfl)) (fun a f => ?_)
 refine l_fieldAddr Tryd.underlying55 rfl Tryd.sizeOf26 (by decide) f rfl rfl (fun a f => ?_)
 refine l_boxCell 0 2 m Pl26 f rfl rfl rfl rfl (fun a f => ?_)
 refine l_op f rfl rfl rfl (r_int (f.eval rfl) (f.eval rfl) b_mul) (fun a f => ?_)
 refine l_op f rfl rfl rfl (r_int (f.eval rfl) (f.eval rfl) b_add) (fun a f => ?_)
 refine l_op f rfl rfl rfl (r_nilCheck (f.eval rfl)) (fun a f => ?_)
 refine l_fieldAddr Tryd.underlying55 rfl Tryd.sizeOf26 (by decide) f rfl rfl (fun a f => ?_)
 refine l_boxStore 0 2 (ds := [(.int .u64 (IntKind.u64.wrap ((IntKind.u64.wrap (x0_2 * 6364136223846793005)) + 1442695040888963407)))]) m Tryd.sizeOf26 f rfl rfl rfl (ones_cons rfl ones_nil) rfl (Nat.le_of_ble_eq_true rfl) rfl (fun w m => ?_)
 have m : Mem W G w (Itm.box b0 55 [v0_0, (.int .i64 x0_1), (.int .u64 (IntKind.u64.wrap ((IntKind.u64.wrap (x0_2 * 6364136223846793005)) + 1442695040888963407)))] :: H) := m
 refine l_nil ?_
 refine k_seq ?_
 refine k_region ?_
 refine l_op f rfl rfl rfl (r_move (f.eval rfl)) (fun a f => ?_)
 refine l_op f rfl rfl rfl (r_nilCheck (f.eval rfl)) (fun a f => ?_)
 refine l_fieldAddr Tryd.underlying55 rfl Tryd.sizeOf26 (by decide) f rfl rfl (fun a f => ?_)
 refine l_boxCell 0 2 m Pl26 f rfl rfl rfl rfl (fun a f => ?_)
 refine l_op f rfl rfl rfl (r_shr (f.eval rfl) (f.eval rfl) (by decide)) (fun a f => ?_)
 refine l_op f rfl rfl rfl (r_int (f.eval rfl) (f.eval rfl) b_and) (fun a f => ?_)
 refine l_op f rfl rfl rfl (r_conv (f.eval rfl) ⟨_, Tryd.underlying26⟩ Tryd.underlying2) (fun a f => ?_)
 refine l_op f rfl rfl rfl (r_assign (f.eval rfl)) (fun a f => ?_)
 refine l_nil ?_
 refine k_seq ?_
 refine k_seq ?_
 refine k_draw 10 Follows (by kernel_rfl) m ?_
 refine q_op (i := 0) (listed' := #[true, false, false, false, false, false, false, false, false, false]) 10 rfl (by kernel_rfl) rfl f rfl rfl rfl (fun _ _ _ _ _ => r_move (f.eval rfl)) (fun a f => ?_)
 refine q_op (i := 1) (listed' := #[true, true, false, false, false, false, false, false, false, false]) 10 rfl (by kernel_rfl) rfl f rfl rfl rfl (fun _ _ _ _ _ => r_nilCheck (f.eval rfl)) (fun a f => ?_)
 refine q_fieldAddr (i := 2) (listed' := #[true, true, true, false, false, false, false, false, false, false]) 10 Tryd.underlying55 rfl Tryd.sizeOf3 (by decide) rfl (by kernel_rfl) rfl f rfl rfl rfl (fun a f => ?_)
 refine q_boxCell (i := 3) (listed' := #[true, true, true, true, false, false, false, false, false, false]) 10 0 Pl3 rfl rfl rfl (by kernel_rfl) rfl f rfl rfl rfl (fun a f => ?_)
 refine q_op (i := 4) (listed' := #[true, true, true, true, true, false, false, false, false, false]) 10 rfl (by kernel_rfl) rfl f rfl rfl rfl (fun _ _ _ _ _ => r_move (f.eval rfl)) (fun a f => ?_)
 refine q_op (i := 5) (listed' := #[true, true, true, true, true, true, false, false, false, false]) 10 rfl (by kernel_rfl) rfl f rfl rfl rfl (fun _ _ _ _ _ => r_nilCheck (f.eval rfl)) (fun a f => ?_)
 refine q_fieldAddr (i := 6) (listed' := #[true, true, true, true, true, true, true, false, false, false]) 10 Tryd.underlying55 rfl Tryd.sizeOf22 (by decide) rfl (by kernel_rfl) rfl f rfl rfl rfl (fun a f => ?_)
 refine q_boxCell (i := 7) (listed' := #[true, true, true, true, true, true, true, true, false, false]) 10 0 Pl22 rfl rfl rfl (by kernel_rfl) rfl f rfl rfl rfl (fun a f => ?_)
 refine q_len (i := 8) (listed' := #[true, true, true, true, true, true, true, true, true, false]) 10 Tryd.underlying22 h0_0 rfl (by kernel_rfl) rfl f rfl rfl rfl (fun a f => ?_)
 refine q_op (i := 9) (listed' := #[true, true, true, true, true, true, true, true, true, true]) 10 rfl (by kernel_rfl) rfl f rfl rfl rfl (fun _ _ _ _ _ => r_int (f.eval rfl) (f.eval rfl) b_lss) (fun a f => ?_)
 refine q_end (fun G_2 w hl_3 m => ?_)
 have h0_0 := RSl.mono (RI.mono _) _ _ _ _ hl_3 h0_0
 have m : Mem W G_2 w (Itm.box b0 55 [v0_0, (.int .i64 x0_1), (.int .u64 (IntKind.u64.wrap ((IntKind.u64.wrap (x0_2 * 6364136223846793005)) + 1442695040888963407)))] :: H) := m
 refine l_nil ?_
 rcases cond_some hd with ⟨hc_4, hd⟩ | ⟨hc_4, hd⟩
 ·refine k_true f rfl hc_4 ?_
  refine k_seq ?_
  refine k_draw 14 Follows (by kernel_rfl) m ?_
  refine q_op (i := 0) (listed' := #[true, false, false, false, false, false, false, false, false, false, false, false, false, false]) 14 rfl (by kernel_rfl) rfl f rfl rfl rfl (fun _ _ _ _ _ => r_move (f.eval rfl)) (fun a f => ?_)
  refine q_op (i := 1) (listed' := #[true, true, false, false, false, false, false, false, false, false, false, false, false, false]) 14 rfl (by kernel_rfl) rfl f rfl rfl rfl (fun _ _ _ _ _ => r_move (f.eval rfl)) (fun a f => ?_)
  refine q_op (i := 2) (listed' := #[true, true, true, false, false, false, false, false, false, false, false, false, false, false]) 14 rfl (by kernel_rfl) rfl f rfl rfl rfl (fun _ _ _ _ _ => r_nilCheck (f.eval rfl)) (fun a f => ?_)
  refine q_fieldAddr (i := 3) (listed' := #[true, true, true, true, false, false, false, false, false, false, false, false, false, false]) 14 Tryd.underlying55 rfl Tryd.sizeOf22 (by decide) rfl (by kernel_rfl) rfl f rfl rfl rfl (fun a f => ?_)
  refine q_boxCell (i := 4) (listed' := #[true, true, true, true, true, false, false, false, false, false, false, false, false, false]) 14 0 Pl22 rfl rfl rfl (by kernel_rfl) rfl f rfl rfl rfl (fun a f => ?_)
  refine q_op (i := 5) (listed' := #[true, true, true, true, true, true, false, false, false, false, false, false, false, false]) 14 rfl (by kernel_rfl) rfl f rfl rfl rfl (fun _ _ _ _ _ => r_move (f.eval rfl)) (fun a f => ?_)
  refine q_op (i := 6) (listed' := #[true, true, true, true, true, true, true, false, false, false, false, false, false, false]) 14 rfl (by kernel_rfl) rfl f rfl rfl rfl (fun _ _ _ _ _ => r_nilCheck (f.eval rfl)) (fun a f => ?_)
  refine q_fieldAddr (i := 7) (listed' := #[true, true, true, true, true, true, true, true, false, false, false, false, false, false]) 14 Tryd.underlying55 rfl Tryd.sizeOf3 (by decide) rfl (by kernel_rfl) rfl f rfl rfl rfl (fun a f => ?_)
  refine q_boxCell (i := 8) (listed' := #[true, true, true, true, true, true, true, true, true, false, false, false, false, false]) 14 0 Pl3 rfl rfl rfl (by kernel_rfl) rfl f rfl rfl rfl (fun a f => ?_)
  obtain ⟨e_5, he_6, hd⟩ := bind_some hd
  refine q_at (i := 9) (listed' := #[true, true, true, true, true, true, true, true, true, true, false, false, false, false]) 14 T22 h0_0 he_6 rfl (by kernel_rfl) rfl f rfl rfl rfl rfl (fun p_7 c_8 a g_9 h_10 f => ?_)
  subst h_10
  refine q_loadAt (i := 10) (listed' := #[true, true, true, true, true, true, true, true, true, true, true, false, false, false]) 14 Pl5 g_9 rfl (by kernel_rfl) rfl f rfl rfl rfl (fun a f => ?_)
  refine q_op (i := 11) (listed' := #[true, true, true, true, true, true, true, true, true, true, true, true, false, false]) 14 rfl (by kernel_rfl) rfl f rfl rfl rfl (fun _ _ _ _ _ => r_conv (f.eval rfl) ⟨_, Tryd.underlying5⟩ Tryd.underlying2) (fun a f => ?_)
  refine q_op (i := 12) (listed' := #[true, true, true, true, true, true, true, true, true, true, true, true, true, false]) 14 rfl (by kernel_rfl) rfl f rfl rfl rfl (fun _ _ _ _ _ => r_int (f.eval rfl) (f.eval rfl) b_add) (fun a f => ?_)
  refine q_op (i := 13) (listed' := #[true, true, true, true, true, true, true, true, true, true, true, true, true, true]) 14 rfl (by kernel_rfl) rfl f rfl rfl rfl (fun _ _ _ _ _ => r_assign (f.eval rfl)) (fun a f => ?_)
  refine q_end (fun G_11 w hl_12 m => ?_)
  have h0_0 := RSl.mono (RI.mono _) _ _ _ _ hl_12 h0_0
  have g_9 := At.mono hl_12 g_9
  have m : Mem W G_11 w (Itm.box b0 55 [v0_0, (.int .i64 x0_1), (.int .u64 (IntKind.u64.wrap ((IntKind.u64.wrap (x0_2 * 6364136223846793005)) + 1442695040888963407)))] :: H) := m
  refine l_nil ?_
  refine k_region ?_
  refine l_op f rfl rfl rfl (r_move (f.eval rfl)) (fun a f => ?_)
  refine l_op f rfl rfl rfl (r_move (f.eval rfl)) (fun a f => ?_)
  refine l_op f rfl rfl rfl (r_nilCheck (f.eval rfl)) (fun a f => ?_)
  refine l_fieldAddr Tryd.underlying55 rfl Tryd.sizeOf3 (by decide) f rfl rfl (fun a f => ?_)
  refine l_boxCell 0 1 m Pl3 f rfl rfl rfl rfl (fun a f => ?_)
  refine l_op f rfl rfl rfl (r_int (f.eval rfl) (f.eval rfl) b_add) (fun a f => ?_)
  refine l_op f rfl rfl rfl (r_nilCheck (f.eval rfl)) (fun a f => ?_)
  refine l_fieldAddr Tryd.underlying55 rfl Tryd.sizeOf3 (by decide) f rfl rfl (fun a f => ?_)
  refine l_boxStore 0 1 (ds := [(.int .i64 (IntKind.i64.wrap (x0_1 + 1)))]) m Tryd.sizeOf3 f rfl rfl rfl (ones_cons rfl ones_nil) rfl (Nat.le_of_ble_eq_true rfl) rfl (fun w m => ?_)
  have m : Mem W G_11 w (Itm.box b0 55 [v0_0, (.int .i64 (IntKind.i64.wrap (x0_1 + 1))), (.int .u64 (IntKind.u64.wrap ((IntKind.u64.wrap (x0_2 * 6364136223846793005)) + 1442695040888963407)))] :: H) := m
  refine l_nil ?_
  refine k_seq ?_
  refine k_region ?_
  refine l_op f rfl rfl rfl (r_move (f.eval rfl)) (fun a f => ?_)
  refine l_op f rfl rfl rfl (r_move (f.eval rfl)) (fun a f => ?_)
  obtain ⟨hn_13, hd⟩ := cond_none hd
  refine l_op f rfl rfl rfl (r_int (f.eval rfl) (f.eval rfl) (b_rem hn_13)) (fun a f => ?_)
  refine l_op f rfl rfl rfl (r_assign (f.eval rfl)) (fun a f => ?_)
  refine l_nil ?_
  refine k_ret ?_
  obtain rfl := Option.some.inj hd
  exact ⟨[(.int .i64 (Int.tmod (IntKind.i64.wrap ((IntKind.i64.wrap (iand .u64 (ishr .u64 (IntKind.u64.wrap ((IntKind.u64.wrap (x0_2 * 6364136223846793005)) + 1442695040888963407)) 33) 16777215)) + (IntKind.i64.wrap e_5))) x1))], ⟨f.get _ _ rfl, trivial⟩, f.defers, _, [Itm.box b0 55 [v0_0, (.int .i64 (IntKind.i64.wrap (x0_1 + 1))), (.int .u64 (IntKind.u64.wrap ((IntKind.u64.wrap (x0_2 * 6364136223846793005)) + 1442695040888963407)))]], (GLe.trans hl_3 hl_12), m, _, rfl, rfl, h0_0⟩
 ·refine k_false f rfl hc_4 ?_
  refine k_skip ?_
  refine k_seq ?_
  refine k_region ?_
  refine l_op f rfl rfl rfl (r_move (f.eval rfl)) (fun a f => ?_)
  refine l_op f rfl rfl rfl (r_move (f.eval rfl)) (fun a f => ?_)
  obtain ⟨hn_14, hd⟩ := cond_none hd
  refine l_op f rfl rfl rfl (r_int (f.eval rfl) (f.eval rfl) (b_rem hn_14)) (fun a f => ?_)
  refine l_op f rfl rfl rfl (r_assign (f.eval rfl)) (fun a f => ?_)
  refine l_nil ?_
  refine k_ret ?_
  obtain rfl := Option.some.inj hd
  exact ⟨[(.int .i64 (Int.tmod (IntKind.i64.wrap (iand .u64 (ishr .u64 (IntKind.u64.wrap ((IntKind.u64.wrap (x0_2 * 6364136223846793005)) + 1442695040888963407)) 33) 16777215)) x1))], ⟨f.get _ _ rfl, trivial⟩, f.defers, _, [Itm.box b0 55 [v0_0, (.int .i64 x0_1), (.int .u64 (IntKind.u64.wrap ((IntKind.u64.wrap (x0_2 * 6364136223846793005)) + 1442695040888963407)))]], hl_3, m, _, rfl, rfl, h0_0⟩

theorem Wk.spec_l1Empty {W w : World} {G : GH} {H : List Itm} {x0 : Int} (m : Mem W G w (H))  {y : ((List (List Int)))} (hd : D.spec_l1Empty x0 = some y) :
  Calls Tryd.prog 97 #[(.int .i64 x0)] w (Res W G H (fun G' Ho v => ∃ r0 : Value, ∃ i0 : Itm, Ho = [i0] ∧ v = (.agg #[r0]) ∧ Ow (RSl (RI .i64)) 31 G' i0 r0 y)) := by
 refine calls_b (args := [(.int .i64 x0)]) (N := 18) [.cell 2 29] Tryd.func97 rfl rfl (Nat.le_of_ble_eq_true rfl) rfl (fun a f => ?_)
 unfold D.spec_l1Empty at hd
 refine k_seq ?_
 refine k_region ?_
 refine l_alloc (cs := [(.slice none 0 0)]) Tryd.zeroValue29 m f rfl rfl (fun b_2 w a m f => ?_)
 refine l_nil ?_
 refine k_seq ?_
 refine k_region ?_
 have hb_3 : ∀ w, (Instr.build 29 #[]).run Tryd.prog w = .ok (.agg #[(.slice none 0 0)]) w := by intro w; simp [Instr.build, Instr.fill, cells_int, cells_bool, cells_string, cells_slice, cells_pointer, cells_agg]
 refine l_build f rfl rfl hb_3 (fun a f => ?_)
 refine l_alloc (cs := [(.slice none 0 0)]) Tryd.zeroValue29 m f rfl rfl (fun b_5 w a m f => ?_)
 refine l_boxStore 0 0 (ds := [(.slice none 0 0)]) m Tryd.sizeOf29 f rfl rfl rfl (ones_cons rfl ones_nil) rfl (Nat.le_of_ble_eq_true rfl) rfl (fun w m => ?_)
 have m : Mem W G w (Itm.box b_5 29 [(.slice none 0 0)] :: Itm.box b_2 29 [(.slice none 0 0)] :: H) := m
 refine l_nil ?_
 refine k_seq ?_
 refine k_seq ?_
 refine k_region ?_
 refine l_op f rfl rfl rfl (r_assign (f.eval rfl)) (fun a f => ?_)
 refine l_nil ?_
 obtain ⟨it_58, m, o_59⟩ := Ow.nil (RSl (RI .i64)) 31 m
 obtain ⟨q_52, hl_53, hd⟩ := bind_some hd
 refine k_cut (fun a w => ∃ l_88 : List (List Int), l_88 = q_52 ∧ ∃ (G_87 : GH) (v_89 : Value) (it_90 : Itm), GLe G G_87 ∧ Fr a 18 [(2, (.pointer (some ⟨b_2, 0, none⟩))), (3, (.pointer (some ⟨b_5, 0, none⟩)))] ∧ Mem W G_87 w (Itm.box b_2 29 [(.slice none 0 0)] :: Itm.box b_5 29 [v_89] :: it_90 :: H) ∧ Ow (RSl (RI .i64)) 31 G_87 it_90 v_89 l_88) ?_ ?_
 ·refine k_block ?_
  have m : Mem W G w (Itm.box b_5 29 [(.slice none 0 0)] :: it_58 :: Itm.box b_2 29 [(.slice none 0 0)] :: H) := m.front 1 rfl
  have m : Mem W G w (Itm.box b_2 29 [(.slice none 0 0)] :: Itm.box b_5 29 [(.slice none 0 0)] :: it_58 :: H) := m.front 2 rfl
  refine k_loop (fun s_56 a w => ∃ x_62 : Int, ∃ l_63 : List (List Int), (x_62, l_63) = s_56 ∧ ∃ (G_61 : GH) (v_64 : Value) (it_65 : Itm), GLe G G_61 ∧ Fr a 18 [(0, (.int .i64 x0)), (2, (.pointer (some ⟨b_2, 0, none⟩))), (3, (.pointer (some ⟨b_5, 0, none⟩))), (4, (.int .i64 x_62))] ∧ Mem W G_61 w (Itm.box b_2 29 [(.slice none 0 0)] :: Itm.box b_5 29 [v_64] :: it_65 :: H) ∧ Ow (RSl (RI .i64)) 31 G_61 it_65 v_64 l_63) hl_53 ⟨_, _, rfl, _, (.slice none 0 0), it_58, (GLe.refl _), f.weak ⟨rfl, rfl, rfl, rfl, trivial⟩, m, o_59⟩ ?_
  clear hl_53 f m
  rintro s_56 o_57 hs_54 hq_55 a w ⟨x_62, l_63, rfl, G_61, v_64, it_65, hl_68, f, m, o_66⟩
  refine k_seq ?_
  refine k_seq ?_
  refine k_region ?_
  refine l_op f rfl rfl rfl (r_move (f.eval rfl)) (fun a f => ?_)
  refine l_op f rfl rfl rfl (r_move (f.eval rfl)) (fun a f => ?_)
  refine l_op f rfl rfl rfl (r_int (f.eval rfl) (f.eval rfl) b_lss) (fun a f => ?_)
  refine l_nil ?_
  rcases cond_some hs_54 with ⟨hc_94, hs_54⟩ | ⟨hc_94, hs_54⟩
  ·refine k_true f rfl hc_94 ?_
   refine k_skip ?_
   refine k_seq ?_
   refine k_block ?_
   refine k_region ?_
   refine l_fieldAddr Tryd.underlying29 rfl Tryd.sizeOf27 (by decide) f rfl rfl (fun a f => ?_)
   refine l_boxCell 1 0 m Pl27 f rfl rfl rfl rfl (fun a f => ?_)
   refine l_slit (R := (RI .i64)) (xs := ([] : List Int)) (RI.one _) m T31 f rfl rfl rfl (by decide) (All2.nil _) (fun it_95 v_96 w a m o_97 f => ?_)
   obtain ⟨G_99, hl_100, m, h_101⟩ := Ow.stamp (RI.mono _) o_97 m
   have o_66 := Ow.mono (RSl.mono (RI.mono _)) hl_100 o_66
   have m : Mem W G_99 w (Itm.box b_2 29 [(.slice none 0 0)] :: Itm.box b_5 29 [v_64] :: it_65 :: H) := m
   refine l_slit (R := (RSl (RI .i64))) (xs := ([([] : List Int)] : List (List Int))) (RSl.one _) m T27 f rfl rfl rfl (by decide) (All2.cons h_101 (All2.nil _)) (fun it_102 v_103 w a m o_104 f => ?_)
   obtain ⟨l_106, hx_107, hs_54⟩ := bind_some hs_54
   refine l_append (RSl.one _) 3 m o_66 rfl T27 rfl (by decide) f rfl rfl rfl (Ow.src (j := 0) o_104 m rfl) hx_107 (fun it_108 v_109 w a m o_110 f => ?_)
   have m : Mem W G_99 w (it_102 :: Itm.box b_2 29 [(.slice none 0 0)] :: Itm.box b_5 29 [v_64] :: it_108 :: H) := m
   refine l_fieldAddr Tryd.underlying29 rfl Tryd.sizeOf27 (by decide) f rfl rfl (fun a f => ?_)
   refine l_boxStore 2 0 (ds := [v_109]) m Tryd.sizeOf27 f rfl rfl (Ow.cells 3 m o_110 rfl) (ones_cons (Ow.one1 3 m o_110 rfl) ones_nil) rfl (Nat.le_of_ble_eq_true rfl) rfl (fun w m => ?_)
   have m : Mem W G_99 w (it_102 :: Itm.box b_2 29 [(.slice none 0 0)] :: Itm.box b_5 29 [v_109] :: it_108 :: H) := m
   refine l_nil ?_
   refine k_region ?_
   refine l_op f rfl rfl rfl (r_move (f.eval rfl)) (fun a f => ?_)
   refine l_op f rfl rfl rfl (r_int (f.eval rfl) (f.eval rfl) b_add) (fun a f => ?_)
   refine l_op f rfl rfl rfl (r_assign (f.eval rfl)) (fun a f => ?_)
   refine l_nil ?_
   have m : Mem W G_99 w (it_108 :: it_102 :: Itm.box b_2 29 [(.slice none 0 0)] :: Itm.box b_5 29 [v_109] :: H) := m.front 3 rfl
   have m : Mem W G_99 w (Itm.box b_5 29 [v_109] :: it_108 :: it_102 :: Itm.box b_2 29 [(.slice none 0 0)] :: H) := m.front 3 rfl
   have m : Mem W G_99 w (Itm.box b_2 29 [(.slice none 0 0)] :: Itm.box b_5 29 [v_109] :: it_108 :: it_102 :: H) := m.front 3 rfl
   have m : Mem W G_99 w (Itm.box b_2 29 [(.slice none 0 0)] :: Itm.box b_5 29 [v_109] :: it_108 :: H) := m.eraseAt 3
   obtain rfl := Option.some.inj hs_54
   exact ⟨_, rfl, _, _, rfl, _, v_109, it_108, (GLe.trans hl_68 hl_100), f.weak ⟨rfl, rfl, rfl, rfl, trivial⟩, m, o_110⟩
  ·refine k_false f rfl hc_94 ?_
   refine k_exit rfl ?_
   have m : Mem W G_61 w (it_65 :: Itm.box b_2 29 [(.slice none 0 0)] :: Itm.box b_5 29 [v_64] :: H) := m.front 2 rfl
   have m : Mem W G_61 w (Itm.box b_5 29 [v_64] :: it_65 :: Itm.box b_2 29 [(.slice none 0 0)] :: H) := m.front 2 rfl
   have m : Mem W G_61 w (Itm.box b_2 29 [(.slice none 0 0)] :: Itm.box b_5 29 [v_64] :: it_65 :: H) := m.front 2 rfl
   obtain rfl := Option.some.inj hs_54
   obtain rfl := hq_55 _ rfl
   exact ⟨_, rfl, _, v_64, it_65, hl_68, f.weak ⟨rfl, rfl, trivial⟩, m, o_66⟩
 ·rintro a w ⟨l_88, rfl, G_87, v_89, it_90, hl_93, f, m, o_91⟩
  refine k_seq ?_
  refine k_region ?_
  refine l_boxAgg 1 0 (ds := [v_89]) m Ag29 f rfl rfl rfl rfl rfl (fun a f => ?_)
  refine l_boxStore 0 0 (ds := [v_89]) m Tryd.sizeOf29 f rfl rfl rfl (ones_cons (Ow.one1 2 m o_91 rfl) ones_nil) rfl (Nat.le_of_ble_eq_true rfl) rfl (fun w m => ?_)
  have m : Mem W G_87 w (Itm.box b_2 29 [v_89] :: Itm.box b_5 29 [v_89] :: it_90 :: H) := m
  refine l_nil ?_
  refine k_ret ?_
  have rc_112 := rr_agg (P := Tryd.prog) 0 m Ag29 f (s := 2) rfl rfl rfl
  have m : Mem W G_87 w (it_90 :: Itm.box b_2 29 [v_89] :: Itm.box b_5 29 [v_89] :: H) := m.front 2 rfl
  have m : Mem W G_87 w (it_90 :: Itm.box b_2 29 [v_89] :: H) := m.eraseAt 2
  have m : Mem W G_87 w (it_90 :: H) := m.eraseAt 1
  obtain rfl := Option.some.inj hd
  exact ⟨[(.agg #[v_89])], ⟨rc_112, trivial⟩, f.defers, _, [it_90], hl_93, m, _, _, rfl, rfl, o_91⟩

theorem Wk.spec_l1Link {W w : World} {G : GH} {H : List Itm} {v0_0 : Value} {it0_0 : Itm} {x0_0 : (List (List Int))} {x1 : Int} {x2 : Int} (m : Mem W G w (it0_0 :: H)) (o0_0 : Ow (RSl (RI .i64)) 31 G it0_0 v0_0 x0_0) {y : ((List (List Int)))} (hd : D.spec_l1Link x0_0 x1 x2 = some y) :
  Calls Tryd.prog 99 #[(.agg #[v0_0]), (.int .i64 x1), (.int .i64 x2)] w (Res W G H (fun G' Ho v => ∃ i0 : Itm, Ho = [i0] ∧ v = (.agg #[v0_0]) ∧ Ow (RSl (RI .i64)) 31 G' i0 v0_0 y)) := by
 refine calls_b (args := [(.agg #[v0_0]), (.int .i64 x1), (.int .i64 x2)]) (N := 30) [.cell 6 29] Tryd.func99 rfl rfl (Nat.le_of_ble_eq_true rfl) rfl (fun a f => ?_)
 unfold D.spec_l1Link at hd
 refine k_seq ?_
 refine k_region ?_
 refine l_box (cs := [v0_0]) m f rfl rfl rfl (fun b_2 w a m f => ?_)
 refine l_alloc (cs := [(.slice none 0 0)]) Tryd.zeroValue29 m f rfl rfl (fun b_4 w a m f => ?_)
 refine l_nil ?_
 refine k_seq ?_
 refine k_draw 11 Follows (by kernel_rfl) m ?_
 refine q_fieldAddr (i := 0) (listed' := #[true, false, false, false, false, false, false, false, false, false, false, false]) 11 Tryd.underlying29 rfl Tryd.sizeOf27 (by decide) rfl (by kernel_rfl) rfl f rfl rfl rfl (fun a f => ?_)
 refine q_boxCell (i := 1) (listed' := #[true, true, false, false, false, false, false, false, false, false, false, false]) 11 1 Pl27 rfl rfl rfl (by kernel_rfl) rfl f rfl rfl rfl (fun a f => ?_)
 refine q_op (i := 2) (listed' := #[true, true, true, false, false, false, false, false, false, false, false, false]) 11 rfl (by kernel_rfl) rfl f rfl rfl rfl (fun _ _ _ _ _ => r_move (f.eval rfl)) (fun a f => ?_)
 refine q_fieldAddr (i := 3) (listed' := #[true, true, true, true, false, false, false, false, false, false, false, false]) 11 Tryd.underlying29 rfl Tryd.sizeOf27 (by decide) rfl (by kernel_rfl) rfl f rfl rfl rfl (fun a f => ?_)
 refine q_boxCell (i := 4) (listed' := #[true, true, true, true, true, false, false, false, false, false, false, false]) 11 1 Pl27 rfl rfl rfl (by kernel_rfl) rfl f rfl rfl rfl (fun a f => ?_)
 refine q_op (i := 5) (listed' := #[true, true, true, true, true, true, false, false, false, false, false, false]) 11 rfl (by kernel_rfl) rfl f rfl rfl rfl (fun _ _ _ _ _ => r_move (f.eval rfl)) (fun a f => ?_)
 obtain ⟨e_5, he_6, hd⟩ := bind_some hd
 refine q_own_at (i := 6) (listed' := #[true, true, true, true, true, true, true, false, false, false, false, false]) 11 2 m o0_0 rfl T27 he_6 rfl (by kernel_rfl) rfl f rfl rfl rfl rfl (fun p_7 a ha_8 f => ?_)
 refine q_own_load (i := 7) (listed' := #[true, true, true, true, true, true, true, true, false, false, false, false]) 11 2 o0_0 rfl Pl31 ha_8 he_6 rfl (by kernel_rfl) rfl f rfl rfl rfl (fun c_9 a h_10 f => ?_)
 refine q_op (i := 8) (listed' := #[true, true, true, true, true, true, true, true, true, false, false, false]) 11 rfl (by kernel_rfl) rfl f rfl rfl rfl (fun _ _ _ _ _ => r_move (f.eval rfl)) (fun a f => ?_)
 refine q_one (i := 9) (listed' := #[true, true, true, true, true, true, true, true, true, true, false, false]) rfl (by kernel_rfl) rfl (fun G_11 w hl_12 m K_13 K_13 => ?_)
 have h_10 := RSl.mono (RI.mono _) _ _ _ _ hl_12 h_10
 have o0_0 := Ow.mono (RSl.mono (RI.mono _)) hl_12 o0_0
 have m : Mem W G_11 w (Itm.box b_4 29 [(.slice none 0 0)] :: Itm.box b_2 29 [v0_0] :: it0_0 :: H) := m
 obtain ⟨y_14, hy_15, hd⟩ := bind_some hd
 refine l_res f rfl rfl Tryd.call70 (Wk.spec_l1Into m h_10 hy_15) (fun v_19 G_16 Ho_20 w hl_17 m hQ_18 a f => ?_)
 obtain ⟨v_21, rfl, rfl, h_22⟩ := hQ_18
 have h_10 := RSl.mono (RI.mono _) _ _ _ _ hl_17 h_10
 have o0_0 := Ow.mono (RSl.mono (RI.mono _)) hl_17 o0_0
 have m : Mem W G_16 w (Itm.box b_4 29 [(.slice none 0 0)] :: Itm.box b_2 29 [v0_0] :: it0_0 :: H) := m
 refine l_nil ?_
 refine K_13 G_16 [] _ _ hl_17 m ?_
 obtain ⟨e_23, he_24, hd⟩ := bind_some hd
 refine q_own_at (i := 10) (listed' := #[true, true, true, true, true, true, true, true, true, true, true, false]) 11 2 m o0_0 rfl T27 he_24 rfl (by kernel_rfl) rfl f rfl rfl rfl rfl (fun p_25 a ha_26 f => ?_)
 refine q_end (fun G_27 w hl_28 m => ?_)
 have h_10 := RSl.mono (RI.mono _) _ _ _ _ hl_28 h_10
 have h_22 := RSl.mono (RI.mono _) _ _ _ _ hl_28 h_22
 have o0_0 := Ow.mono (RSl.mono (RI.mono _)) hl_28 o0_0
 have m : Mem W G_27 w (Itm.box b_4 29 [(.slice none 0 0)] :: Itm.box b_2 29 [v0_0] :: it0_0 :: H) := m
 refine l_own_store 2 m o0_0 rfl Tryd.sizeOf31 f rfl rfl ha_26 he_24 h_22.cells h_22.one1 h_22 (fun it_29 w m o_30 => ?_)
 have m : Mem W G_27 w (Itm.box b_4 29 [(.slice none 0 0)] :: Itm.box b_2 29 [v0_0] :: it_29 :: H) := m
 refine l_nil ?_
 refine k_seq ?_
 refine k_draw 11 Follows (by kernel_rfl) m ?_
 refine q_fieldAddr (i := 0) (listed' := #[true, false, false, false, false, false, false, false, false, false, false, false]) 11 Tryd.underlying29 rfl Tryd.sizeOf27 (by decide) rfl (by kernel_rfl) rfl f rfl rfl rfl (fun a f => ?_)
 refine q_boxCell (i := 1) (listed' := #[true, true, false, false, false, false, false, false, false, false, false, false]) 11 1 Pl27 rfl rfl rfl (by kernel_rfl) rfl f rfl rfl rfl (fun a f => ?_)
 refine q_op (i := 2) (listed' := #[true, true, true, false, false, false, false, false, false, false, false, false]) 11 rfl (by kernel_rfl) rfl f rfl rfl rfl (fun _ _ _ _ _ => r_move (f.eval rfl)) (fun a f => ?_)
 refine q_fieldAddr (i := 3) (listed' := #[true, true, true, true, false, false, false, false, false, false, false, false]) 11 Tryd.underlying29 rfl Tryd.sizeOf27 (by decide) rfl (by kernel_rfl) rfl f rfl rfl rfl (fun a f => ?_)
 refine q_boxCell (i := 4) (listed' := #[true, true, true, true, true, false, false, false, false, false, false, false]) 11 1 Pl27 rfl rfl rfl (by kernel_rfl) rfl f rfl rfl rfl (fun a f => ?_)
 refine q_op (i := 5) (listed' := #[true, true, true, true, true, true, false, false, false, false, false, false]) 11 rfl (by kernel_rfl) rfl f rfl rfl rfl (fun _ _ _ _ _ => r_move (f.eval rfl)) (fun a f => ?_)
 obtain ⟨e_31, he_32, hd⟩ := bind_some hd
 refine q_own_at (i := 6) (listed' := #[true, true, true, true, true, true, true, false, false, false, false, false]) 11 2 m o_30 rfl T27 he_32 rfl (by kernel_rfl) rfl f rfl rfl rfl rfl (fun p_33 a ha_34 f => ?_)
 refine q_own_load (i := 7) (listed' := #[true, true, true, true, true, true, true, true, false, false, false, false]) 11 2 o_30 rfl Pl31 ha_34 he_32 rfl (by kernel_rfl) rfl f rfl rfl rfl (fun c_35 a h_36 f => ?_)
 refine q_op (i := 8) (listed' := #[true, true, true, true, true, true, true, true, true, false, false, false]) 11 rfl (by kernel_rfl) rfl f rfl rfl rfl (fun _ _ _ _ _ => r_move (f.eval rfl)) (fun a f => ?_)
 refine q_one (i := 9) (listed' := #[true, true, true, true, true, true, true, true, true, true, false, false]) rfl (by kernel_rfl) rfl (fun G_37 w hl_38 m K_39 K_39 => ?_)
 have h_36 := RSl.mono (RI.mono _) _ _ _ _ hl_38 h_36
 have o_30 := Ow.mono (RSl.mono (RI.mono _)) hl_38 o_30
 have m : Mem W G_37 w (Itm.box b_4 29 [(.slice none 0 0)] :: Itm.box b_2 29 [v0_0] :: it_29 :: H) := m
 obtain ⟨y_40, hy_41, hd⟩ := bind_some hd
 refine l_res f rfl rfl Tryd.call70 (Wk.spec_l1Into m h_36 hy_41) (fun v_45 G_42 Ho_46 w hl_43 m hQ_44 a f => ?_)
 obtain ⟨v_47, rfl, rfl, h_48⟩ := hQ_44
 have h_36 := RSl.mono (RI.mono _) _ _ _ _ hl_43 h_36
 have o_30 := Ow.mono (RSl.mono (RI.mono _)) hl_43 o_30
 have m : Mem W G_42 w (Itm.box b_4 29 [(.slice none 0 0)] :: Itm.box b_2 29 [v0_0] :: it_29 :: H) := m
 refine l_nil ?_
 refine K_39 G_42 [] _ _ hl_43 m ?_
 obtain ⟨e_49, he_50, hd⟩ := bind_some hd
 refine q_own_at (i := 10) (listed' := #[true, true, true, true, true, true, true, true, true, true, true, false]) 11 2 m o_30 rfl T27 he_50 rfl (by kernel_rfl) rfl f rfl rfl rfl rfl (fun p_51 a ha_52 f => ?_)
 refine q_end (fun G_53 w hl_54 m => ?_)
 have h_36 := RSl.mono (RI.mono _) _ _ _ _ hl_54 h_36
 have h_48 := RSl.mono (RI.mono _) _ _ _ _ hl_54 h_48
 have o_30 := Ow.mono (RSl.mono (RI.mono _)) hl_54 o_30
 have m : Mem W G_53 w (Itm.box b_4 29 [(.slice none 0 0)] :: Itm.box b_2 29 [v0_0] :: it_29 :: H) := m
 refine l_own_store 2 m o_30 rfl Tryd.sizeOf31 f rfl rfl ha_52 he_50 h_48.cells h_48.one1 h_48 (fun it_55 w m o_56 => ?_)
 have m : Mem W G_53 w (Itm.box b_4 29 [(.slice none 0 0)] :: Itm.box b_2 29 [v0_0] :: it_55 :: H) := m
 refine l_nil ?_
 refine k_seq ?_
 refine k_region ?_
 refine l_boxAgg 1 0 (ds := [v0_0]) m Ag29 f rfl rfl rfl rfl rfl (fun a f => ?_)
 refine l_boxStore 0 0 (ds := [v0_0]) m Tryd.sizeOf29 f rfl rfl rfl (ones_cons (Ow.one1 2 m o_56 rfl) ones_nil) rfl (Nat.le_of_ble_eq_true rfl) rfl (fun w m => ?_)
 have m : Mem W G_53 w (Itm.box b_4 29 [v0_0] :: Itm.box b_2 29 [v0_0] :: it_55 :: H) := m
 refine l_nil ?_
 refine k_ret ?_
 have rc_57 := rr_agg (P := Tryd.prog) 0 m Ag29 f (s := 6) rfl rfl rfl
 have m : Mem W G_53 w (it_55 :: Itm.box b_4 29 [v0_0] :: Itm.box b_2 29 [v0_0] :: H) := m.front 2 rfl
 have m : Mem W G_53 w (it_55 :: Itm.box b_4 29 [v0_0] :: H) := m.eraseAt 2
 have m : Mem W G_53 w (it_55 :: H) := m.eraseAt 1
 obtain rfl := Option.some.inj hd
 exact ⟨[(.agg #[v0_0])], ⟨rc_57, trivial⟩, f.defers, _, [it_55], (GLe.trans hl_12 (GLe.trans hl_17 (GLe.trans hl_28 (GLe.trans hl_38 (GLe.trans hl_43 hl_54))))), m, _, rfl, rfl, o_56⟩

theorem Wk.spec_GraphOf {W w : World} {G : GH} {H : List Itm} {v1 : Value} {x0 : Int} {x1 : (List (List Int))} (m : Mem W G w (H)) (h1 : RSl (RSl (RI .i64)) G v1 x1) {y : ((List (List Int))) × Bool} (hd : D.spec_GraphOf x0 x1 = some y) :
  Calls Tryd.prog 42 #[(.int .i64 x0), v1] w (Res W G H (fun G' Ho v => ∃ r0 : Value, ∃ i0 : Itm, Ho = [i0] ∧ v = .tuple #[(.agg #[r0]), (.bool y.2)] ∧ Ow (RSl (RI .i64)) 31 G' i0 r0 y.1)) := by
 refine calls_b (args := [(.int .i64 x0), v1]) (N := 56) [.cell 4 29, .tmp 5] Tryd.func42 rfl rfl (Nat.le_of_ble_eq_true rfl) rfl (fun a f => ?_)
 unfold D.spec_GraphOf at hd
 refine k_seq ?_
 refine k_region ?_
 refine l_alloc (cs := [(.slice none 0 0)]) Tryd.zeroValue29 m f rfl rfl (fun b_2 w a m f => ?_)
 refine l_op f rfl rfl rfl (r_assign (f.eval rfl)) (fun a f => ?_)
 refine l_nil ?_
 refine k_seq ?_
 refine k_seq ?_
 refine k_region ?_
 refine l_op f rfl rfl rfl (r_move (f.eval rfl)) (fun a f => ?_)
 obtain ⟨y_3, hy_4, hd⟩ := bind_some hd
 refine l_res f rfl rfl Tryd.call67 (Wk.spec_l1In m  hy_4) (fun v_8 G_5 Ho_9 w hl_6 m hQ_7 a f => ?_)
 obtain ⟨rfl, rfl⟩ := hQ_7
 have h1 := RSl.mono (RSl.mono (RI.mono _)) _ _ _ _ hl_6 h1
 have m : Mem W G_5 w (Itm.box b_2 29 [(.slice none 0 0)] :: H) := m
 refine l_op f rfl rfl rfl (r_not (f.eval rfl)) (fun a f => ?_)
 refine l_op f rfl rfl rfl (r_move (f.eval rfl)) (fun a f => ?_)
 refine l_cut 4 (fun a w => ∃ G_11, GLe G_5 G_11 ∧ Mem W G_11 w (Itm.box b_2 29 [(.slice none 0 0)] :: H) ∧ Fr a 56 [(0, (.int .i64 x0)), (1, v1), (4, (.pointer (some ⟨b_2, 0, none⟩))), (8, (.int .i64 x0)), (9, (.bool y_3)), (10, (.bool (!y_3))), (11, (.bool (!y_3))), (15, (.bool ((!y_3) || (decide ((120 : Int) < (x1.length : Int))))))]) ?_ ?_
 ·rcases Bool.eq_false_or_eq_true (!y_3) with hc_10 | hc_10
  ·refine l_not' f rfl rfl rfl hc_10 (fun a f => ?_)
   refine l_not' f rfl rfl rfl hc_10 (fun a f => ?_)
   refine l_not' f rfl rfl rfl hc_10 (fun a f => ?_)
   refine l_op f rfl rfl rfl (r_pickT (f.eval rfl) hc_10 (f.eval rfl)) (fun a f => ?_)
   exact ⟨_, (GLe.refl _), m, f.weak ⟨rfl, rfl, rfl, rfl, rfl, rfl, rfl, by rw [hc_10]; rfl, trivial⟩⟩
  ·refine l_run f rfl rfl hc_10 ?_
   refine l_op f rfl rfl rfl (r_move (f.eval rfl)) (fun a f => ?_)
   refine l_run f rfl rfl hc_10 ?_
   refine l_len Tryd.underlying27 f rfl rfl h1 (fun a f => ?_)
   refine l_run f rfl rfl hc_10 ?_
   refine l_op f rfl rfl rfl (r_int (f.eval rfl) (f.eval rfl) b_gtr) (fun a f => ?_)
   refine l_op f rfl rfl rfl (r_pickF (f.eval rfl) hc_10 (f.eval rfl)) (fun a f => ?_)
   exact ⟨_, (GLe.refl _), m, f.weak ⟨rfl, rfl, rfl, rfl, rfl, rfl, rfl, by rw [hc_10]; rfl, trivial⟩⟩
 ·rintro a w ⟨G_11, hl_12, m, f⟩
  have h1 := RSl.mono (RSl.mono (RI.mono _)) _ _ _ _ hl_12 h1
  refine l_nil ?_
  rcases cond_some hd with ⟨hc_13, hd⟩ | ⟨hc_13, hd⟩
  ·refine k_true f rfl hc_13 ?_
   refine k_seq ?_
   refine k_region ?_
   have hb_14 : ∀ w, (Instr.build 29 #[]).run Tryd.prog w = .ok (.agg #[(.slice none 0 0)]) w := by intro w; simp [Instr.build, Instr.fill, cells_int, cells_bool, cells_string, cells_slice, cells_pointer, cells_agg]
   refine l_build f rfl rfl hb_14 (fun a f => ?_)
   refine l_boxStore 0 0 (ds := [(.slice none 0 0)]) m Tryd.sizeOf29 f rfl rfl rfl (ones_cons rfl ones_nil) rfl (Nat.le_of_ble_eq_true rfl) rfl (fun w m => ?_)
   have m : Mem W G_11 w (Itm.box b_2 29 [(.slice none 0 0)] :: H) := m
   refine l_op f rfl rfl rfl (r_assign (f.eval rfl)) (fun a f => ?_)
   refine l_nil ?_
   refine k_ret ?_
   obtain ⟨it_15, m, o_16⟩ := Ow.nil (RSl (RI .i64)) 31 m
   have m : Mem W G_11 w (it_15 :: Itm.box b_2 29 [(.slice none 0 0)] :: H) := m
   have rc_18 := rr_agg (P := Tryd.prog) 1 m Ag29 f (s := 4) rfl rfl rfl
   have m : Mem W G_11 w (it_15 :: H) := m.eraseAt 1
   obtain rfl := Option.some.inj hd
   exact ⟨[(.agg #[(.slice none 0 0)]), (.bool false)], ⟨rc_18, f.get _ _ rfl, trivial⟩, f.defers, _, [it_15], (GLe.trans hl_6 hl_12), m, _, _, rfl, rfl, o_16⟩
  ·refine k_false f rfl hc_13 ?_
   refine k_skip ?_
   refine k_seq ?_
   refine k_region ?_
   refine l_op f rfl rfl rfl (r_move (f.eval rfl)) (fun a f => ?_)
   obtain ⟨y_19, hy_20, hd⟩ := bind_some hd
   refine l_res f rfl rfl Tryd.call97 (Wk.spec_l1Empty m  hy_20) (fun v_24 G_21 Ho_25 w hl_22 m hQ_23 a f => ?_)
   obtain ⟨v_26, it_27, rfl, rfl, o_28⟩ := hQ_23
   have h1 := RSl.mono (RSl.mono (RI.mono _)) _ _ _ _ hl_22 h1
   have m : Mem W G_21 w (it_27 :: Itm.box b_2 29 [(.slice none 0 0)] :: H) := m
   refine l_alloc (cs := [(.slice none 0 0)]) Tryd.zeroValue29 m f rfl rfl (fun b_31 w a m f => ?_)
   refine l_boxStore 0 0 (ds := [v_26]) m Tryd.sizeOf29 f rfl rfl rfl (ones_cons (Ow.one1 1 m o_28 rfl) ones_nil) rfl (Nat.le_of_ble_eq_true rfl) rfl (fun w m => ?_)
   have m : Mem W G_21 w (Itm.box b_31 29 [v_26] :: it_27 :: Itm.box b_2 29 [(.slice none 0 0)] :: H) := m
   refine l_nil ?_
   refine k_seq ?_
   refine k_seq ?_
   refine k_region ?_
   refine l_op f rfl rfl rfl (r_assign (f.eval rfl)) (fun a f => ?_)
   refine l_nil ?_
   obtain ⟨q_213, hl_214, hd⟩ := bind_some hd
   refine k_cut (fun a w => ∃ q_213' : (List (List Int)), q_213 = .inl q_213' ∧ ∃ l_314 : List (List Int), l_314 = q_213' ∧ ∃ (G_313 : GH) (it_315 : Itm), GLe G_21 G_313 ∧ Fr a 56 [(4, (.pointer (some ⟨b_2, 0, none⟩))), (6, (.pointer (some ⟨b_31, 0, none⟩)))] ∧ Mem W G_313 w (Itm.box b_2 29 [(.slice none 0 0)] :: Itm.box b_31 29 [v_26] :: it_315 :: H) ∧ Ow (RSl (RI .i64)) 31 G_313 it_315 v_26 l_314) ?_ ?_
   ·refine k_block ?_
    have m : Mem W G_21 w (it_27 :: Itm.box b_31 29 [v_26] :: Itm.box b_2 29 [(.slice none 0 0)] :: H) := m.front 1 rfl
    have m : Mem W G_21 w (Itm.box b_31 29 [v_26] :: it_27 :: Itm.box b_2 29 [(.slice none 0 0)] :: H) := m.front 1 rfl
    have m : Mem W G_21 w (Itm.box b_2 29 [(.slice none 0 0)] :: Itm.box b_31 29 [v_26] :: it_27 :: H) := m.front 2 rfl
    refine k_loop (fun s_217 a w => ∃ x_220 : Int, ∃ l_221 : List (List Int), (x_220, l_221) = s_217 ∧ ∃ (G_219 : GH) (it_222 : Itm), GLe G_21 G_219 ∧ Fr a 56 [(0, (.int .i64 x0)), (1, v1), (4, (.pointer (some ⟨b_2, 0, none⟩))), (6, (.pointer (some ⟨b_31, 0, none⟩))), (7, (.int .i64 x_220))] ∧ Mem W G_219 w (Itm.box b_2 29 [(.slice none 0 0)] :: Itm.box b_31 29 [v_26] :: it_222 :: H) ∧ Ow (RSl (RI .i64)) 31 G_219 it_222 v_26 l_221) hl_214 ⟨_, _, rfl, _, it_27, (GLe.refl _), f.weak ⟨rfl, rfl, rfl, rfl, rfl, trivial⟩, m, o_28⟩ ?_
    clear hl_214 f m
    rintro s_217 o_218 hs_215 hq_216 a w ⟨x_220, l_221, rfl, G_219, it_222, hl_224, f, m, o_223⟩
    have h1 := RSl.mono (RSl.mono (RI.mono _)) _ _ _ _ hl_224 h1
    refine k_seq ?_
    refine k_seq ?_
    refine k_region ?_
    refine l_op f rfl rfl rfl (r_move (f.eval rfl)) (fun a f => ?_)
    refine l_op f rfl rfl rfl (r_move (f.eval rfl)) (fun a f => ?_)
    refine l_len Tryd.underlying27 f rfl rfl h1 (fun a f => ?_)
    refine l_op f rfl rfl rfl (r_int (f.eval rfl) (f.eval rfl) b_lss) (fun a f => ?_)
    refine l_nil ?_
    rcases cond_some hs_215 with ⟨hc_318, hs_215⟩ | ⟨hc_318, hs_215⟩
    ·refine k_true f rfl hc_318 ?_
     refine k_skip ?_
     refine k_seq ?_
     refine k_block ?_
     refine k_seq ?_
     refine k_seq ?_
     refine k_region ?_
     refine l_op f rfl rfl rfl (r_move (f.eval rfl)) (fun a f => ?_)
     refine l_op f rfl rfl rfl (r_move (f.eval rfl)) (fun a f => ?_)
     obtain ⟨e_319, he_320, hs_215⟩ := bind_some hs_215
     refine l_at T27 f rfl rfl rfl h1 he_320 (fun p_321 c_322 a g_323 h_324 f => ?_)
     refine l_loadAt m Pl31 f rfl rfl g_323 (fun a f => ?_)
     refine l_len Tryd.underlying31 f rfl rfl h_324 (fun a f => ?_)
     refine l_op f rfl rfl rfl (r_int (f.eval rfl) (f.eval rfl) b_neq) (fun a f => ?_)
     refine l_op f rfl rfl rfl (r_move (f.eval rfl)) (fun a f => ?_)
     obtain ⟨b_354, hj_355, hs_215⟩ := bind_some hs_215
     refine l_cut 8 (fun a w => ∃ G_352, GLe G_219 G_352 ∧ Mem W G_352 w (Itm.box b_2 29 [(.slice none 0 0)] :: Itm.box b_31 29 [v_26] :: it_222 :: H) ∧ Fr a 56 [(0, (.int .i64 x0)), (1, v1), (4, (.pointer (some ⟨b_2, 0, none⟩))), (6, (.pointer (some ⟨b_31, 0, none⟩))), (7, (.int .i64 x_220)), (22, (.bool (decide (x_220 < (x1.length : Int))))), (25, v1), (26, (.int .i64 x_220)), (27, p_321), (28, c_322), (29, (.int .i64 (e_319.length : Int))), (30, (.bool ((e_319.length : Int) != 2))), (31, (.bool ((e_319.length : Int) != 2))), (39, (.bool b_354))]) ?_ ?_
     ·rcases cond_some hj_355 with ⟨hc_325, hj_355⟩ | ⟨hc_325, hj_355⟩
      ·refine l_not' f rfl rfl rfl hc_325 (fun a f => ?_)
       refine l_not' f rfl rfl rfl hc_325 (fun a f => ?_)
       refine l_not' f rfl rfl rfl hc_325 (fun a f => ?_)
       refine l_not' f rfl rfl rfl hc_325 (fun a f => ?_)
       refine l_not' f rfl rfl rfl hc_325 (fun a f => ?_)
       refine l_not' f rfl rfl rfl hc_325 (fun a f => ?_)
       refine l_not' f rfl rfl rfl hc_325 (fun a f => ?_)
       refine l_op f rfl rfl rfl (r_pickT (f.eval rfl) hc_325 (f.eval rfl)) (fun a f => ?_)
       obtain rfl := Option.some.inj hj_355
       have m : Mem W G_219 w (it_222 :: Itm.box b_2 29 [(.slice none 0 0)] :: Itm.box b_31 29 [v_26] :: H) := m.front 2 rfl
       have m : Mem W G_219 w (Itm.box b_31 29 [v_26] :: it_222 :: Itm.box b_2 29 [(.slice none 0 0)] :: H) := m.front 2 rfl
       have m : Mem W G_219 w (Itm.box b_2 29 [(.slice none 0 0)] :: Itm.box b_31 29 [v_26] :: it_222 :: H) := m.front 2 rfl
       exact ⟨_, (GLe.refl _), m, f.weak ⟨rfl, rfl, rfl, rfl, rfl, rfl, rfl, rfl, rfl, rfl, rfl, rfl, rfl, rfl, trivial⟩⟩
      ·refine l_run f rfl rfl hc_325 ?_
       refine l_op f rfl rfl rfl (r_move (f.eval rfl)) (fun a f => ?_)
       refine l_run f rfl rfl hc_325 ?_
       refine l_op f rfl rfl rfl (r_move (f.eval rfl)) (fun a f => ?_)
       refine l_run f rfl rfl hc_325 ?_
       obtain ⟨e_356, he_357, hj_355⟩ := bind_some hj_355
       refine l_at T27 f rfl rfl rfl h1 he_357 (fun p_358 c_359 a g_360 h_361 f => ?_)
       refine l_run f rfl rfl hc_325 ?_
       refine l_loadAt m Pl31 f rfl rfl g_360 (fun a f => ?_)
       refine l_run f rfl rfl hc_325 ?_
       refine l_op f rfl rfl rfl (r_move (f.eval rfl)) (fun a f => ?_)
       refine l_run f rfl rfl hc_325 ?_
       obtain ⟨y_362, hy_363, hj_355⟩ := bind_some hj_355
       refine l_res f rfl rfl Tryd.call98 (Wk.spec_l1Set m h_361 hy_363) (fun v_367 G_364 Ho_368 w hl_365 m hQ_366 a f => ?_)
       obtain ⟨rfl, rfl⟩ := hQ_366
       have h1 := RSl.mono (RSl.mono (RI.mono _)) _ _ _ _ hl_365 h1
       have g_323 := At.mono hl_365 g_323
       have h_324 := RSl.mono (RI.mono _) _ _ _ _ hl_365 h_324
       have g_360 := At.mono hl_365 g_360
       have h_361 := RSl.mono (RI.mono _) _ _ _ _ hl_365 h_361
       have o_223 := Ow.mono (RSl.mono (RI.mono _)) hl_365 o_223
       have m : Mem W G_364 w (Itm.box b_2 29 [(.slice none 0 0)] :: Itm.box b_31 29 [v_26] :: it_222 :: H) := m
       refine l_run f rfl rfl hc_325 ?_
       refine l_op f rfl rfl rfl (r_not (f.eval rfl)) (fun a f => ?_)
       refine l_op f rfl rfl rfl (r_pickF (f.eval rfl) hc_325 (f.eval rfl)) (fun a f => ?_)
       obtain rfl := Option.some.inj hj_355
       have m : Mem W G_364 w (it_222 :: Itm.box b_2 29 [(.slice none 0 0)] :: Itm.box b_31 29 [v_26] :: H) := m.front 2 rfl
       have m : Mem W G_364 w (Itm.box b_31 29 [v_26] :: it_222 :: Itm.box b_2 29 [(.slice none 0 0)] :: H) := m.front 2 rfl
       have m : Mem W G_364 w (Itm.box b_2 29 [(.slice none 0 0)] :: Itm.box b_31 29 [v_26] :: it_222 :: H) := m.front 2 rfl
       exact ⟨_, hl_365, m, f.weak ⟨rfl, rfl, rfl, rfl, rfl, rfl, rfl, rfl, rfl, rfl, rfl, rfl, rfl, rfl, trivial⟩⟩
     ·rintro a w ⟨G_352, hl_353, m, f⟩
      have h1 := RSl.mono (RSl.mono (RI.mono _)) _ _ _ _ hl_353 h1
      have g_323 := At.mono hl_353 g_323
      have h_324 := RSl.mono (RI.mono _) _ _ _ _ hl_353 h_324
      have o_223 := Ow.mono (RSl.mono (RI.mono _)) hl_353 o_223
      refine l_nil ?_
      rcases cond_some hs_215 with ⟨hc_369, hs_215⟩ | ⟨hc_369, hs_215⟩
      ·refine k_true f rfl hc_369 ?_
       refine k_seq ?_
       refine k_region ?_
       have hb_370 : ∀ w, (Instr.build 29 #[]).run Tryd.prog w = .ok (.agg #[(.slice none 0 0)]) w := by intro w; simp [Instr.build, Instr.fill, cells_int, cells_bool, cells_string, cells_slice, cells_pointer, cells_agg]
       refine l_build f rfl rfl hb_370 (fun a f => ?_)
       refine l_boxStore 0 0 (ds := [(.slice none 0 0)]) m Tryd.sizeOf29 f rfl rfl rfl (ones_cons rfl ones_nil) rfl (Nat.le_of_ble_eq_true rfl) rfl (fun w m => ?_)
       have m : Mem W G_352 w (Itm.box b_2 29 [(.slice none 0 0)] :: Itm.box b_31 29 [v_26] :: it_222 :: H) := m
       refine l_op f rfl rfl rfl (r_assign (f.eval rfl)) (fun a f => ?_)
       refine l_nil ?_
       refine k_ret ?_
       obtain ⟨it_371, m, o_372⟩ := Ow.nil (RSl (RI .i64)) 31 m
       have m : Mem W G_352 w (it_371 :: Itm.box b_2 29 [(.slice none 0 0)] :: Itm.box b_31 29 [v_26] :: it_222 :: H) := m
       have rc_374 := rr_agg (P := Tryd.prog) 1 m Ag29 f (s := 4) rfl rfl rfl
       have m : Mem W G_352 w (it_371 :: Itm.box b_2 29 [(.slice none 0 0)] :: Itm.box b_31 29 [v_26] :: H) := m.eraseAt 3
       have m : Mem W G_352 w (it_371 :: Itm.box b_2 29 [(.slice none 0 0)] :: H) := m.eraseAt 2
       have m : Mem W G_352 w (it_371 :: H) := m.eraseAt 1
       obtain rfl := Option.some.inj hs_215
       obtain rfl := hq_216 _ rfl
       obtain rfl := Option.some.inj hd
       exact ⟨[(.agg #[(.slice none 0 0)]), (.bool false)], ⟨rc_374, f.get _ _ rfl, trivial⟩, f.defers, _, [it_371], (GLe.trans hl_6 (GLe.trans hl_12 (GLe.trans hl_22 (GLe.trans hl_224 hl_353)))), m, _, _, rfl, rfl, o_372⟩
      ·refine k_false f rfl hc_369 ?_
       refine k_skip ?_
       refine k_draw 13 Follows (by kernel_rfl) m ?_
       refine q_boxAgg (i := 0) (listed' := #[true, false, false, false, false, false, false, false, false, false, false, false, false, false, false]) (ds := [v_26]) 13 1 Ag29 rfl rfl rfl rfl (by kernel_rfl) rfl f rfl rfl rfl (fun a f => ?_)
       refine q_op (i := 1) (listed' := #[true, true, false, false, false, false, false, false, false, false, false, false, false, false, false]) 13 rfl (by kernel_rfl) rfl f rfl rfl rfl (fun _ _ _ _ _ => r_move (f.eval rfl)) (fun a f => ?_)
       refine q_op (i := 2) (listed' := #[true, true, true, false, false, false, false, false, false, false, false, false, false, false, false]) 13 rfl (by kernel_rfl) rfl f rfl rfl rfl (fun _ _ _ _ _ => r_move (f.eval rfl)) (fun a f => ?_)
       obtain ⟨e_375, he_376, hs_215⟩ := bind_some hs_215
       refine q_at (i := 3) (listed' := #[true, true, true, true, false, false, false, false, false, false, false, false, false, false, false]) 13 T27 h1 he_376 rfl (by kernel_rfl) rfl f rfl rfl rfl rfl (fun p_377 c_378 a g_379 h_380 f => ?_)
       refine q_loadAt (i := 4) (listed' := #[true, true, true, true, true, false, false, false, false, false, false, false, false, false, false]) 13 Pl31 g_379 rfl (by kernel_rfl) rfl f rfl rfl rfl (fun a f => ?_)
       obtain ⟨e_381, he_382, hs_215⟩ := bind_some hs_215
       refine q_at (i := 5) (listed' := #[true, true, true, true, true, true, false, false, false, false, false, false, false, false, false]) 13 T31 h_380 he_382 rfl (by kernel_rfl) rfl f rfl rfl rfl rfl (fun p_383 c_384 a g_385 h_386 f => ?_)
       subst h_386
       refine q_loadAt (i := 6) (listed' := #[true, true, true, true, true, true, true, false, false, false, false, false, false, false, false]) 13 Pl2 g_385 rfl (by kernel_rfl) rfl f rfl rfl rfl (fun a f => ?_)
       refine q_op (i := 7) (listed' := #[true, true, true, true, true, true, true, true, false, false, false, false, false, false, false]) 13 rfl (by kernel_rfl) rfl f rfl rfl rfl (fun _ _ _ _ _ => r_move (f.eval rfl)) (fun a f => ?_)
       refine q_op (i := 8) (listed' := #[true, true, true, true, true, true, true, true, true, false, false, false, false, false, false]) 13 rfl (by kernel_rfl) rfl f rfl rfl rfl (fun _ _ _ _ _ => r_move (f.eval rfl)) (fun a f => ?_)
       obtain ⟨e_387, he_388, hs_215⟩ := bind_some hs_215
       refine q_at (i := 9) (listed' := #[true, true, true, true, true, true, true, true, true, true, false, false, false, false, false]) 13 T27 h1 he_388 rfl (by kernel_rfl) rfl f rfl rfl rfl rfl (fun p_389 c_390 a g_391 h_392 f => ?_)
       refine q_loadAt (i := 10) (listed' := #[true, true, true, true, true, true, true, true, true, true, true, false, false, false, false]) 13 Pl31 g_391 rfl (by kernel_rfl) rfl f rfl rfl rfl (fun a f => ?_)
       obtain ⟨e_393, he_394, hs_215⟩ := bind_some hs_215
       refine q_at (i := 11) (listed' := #[true, true, true, true, true, true, true, true, true, true, true, true, false, false, false]) 13 T31 h_392 he_394 rfl (by kernel_rfl) rfl f rfl rfl rfl rfl (fun p_395 c_396 a g_397 h_398 f => ?_)
       subst h_398
       refine q_loadAt (i := 12) (listed' := #[true, true, true, true, true, true, true, true, true, true, true, true, true, false, false]) 13 Pl2 g_397 rfl (by kernel_rfl) rfl f rfl rfl rfl (fun a f => ?_)
       refine q_end (fun G_399 w hl_400 m => ?_)
       have h1 := RSl.mono (RSl.mono (RI.mono _)) _ _ _ _ hl_400 h1
       have g_379 := At.mono hl_400 g_379
       have h_380 := RSl.mono (RI.mono _) _ _ _ _ hl_400 h_380
       have g_385 := At.mono hl_400 g_385
       have g_391 := At.mono hl_400 g_391
       have h_392 := RSl.mono (RI.mono _) _ _ _ _ hl_400 h_392
       have g_397 := At.mono hl_400 g_397
       have o_223 := Ow.mono (RSl.mono (RI.mono _)) hl_400 o_223
       have m : Mem W G_399 w (Itm.box b_2 29 [(.slice none 0 0)] :: Itm.box b_31 29 [v_26] :: it_222 :: H) := m
       have m : Mem W G_399 w (it_222 :: Itm.box b_2 29 [(.slice none 0 0)] :: Itm.box b_31 29 [v_26] :: H) := m.front 2 rfl
       obtain ⟨y_401, hy_402, hs_215⟩ := bind_some hs_215
       refine l_res f rfl rfl Tryd.call99 (Wk.spec_l1Link m o_223 hy_402) (fun v_406 G_403 Ho_407 w hl_404 m hQ_405 a f => ?_)
       obtain ⟨it_408, rfl, rfl, o_409⟩ := hQ_405
       have h1 := RSl.mono (RSl.mono (RI.mono _)) _ _ _ _ hl_404 h1
       have g_379 := At.mono hl_404 g_379
       have h_380 := RSl.mono (RI.mono _) _ _ _ _ hl_404 h_380
       have g_385 := At.mono hl_404 g_385
       have g_391 := At.mono hl_404 g_391
       have h_392 := RSl.mono (RI.mono _) _ _ _ _ hl_404 h_392
       have g_397 := At.mono hl_404 g_397
       have m : Mem W G_403 w (it_408 :: Itm.box b_2 29 [(.slice none 0 0)] :: Itm.box b_31 29 [v_26] :: H) := m
       refine l_boxStore 2 0 (ds := [v_26]) m Tryd.sizeOf29 f rfl rfl rfl (ones_cons (Ow.one1 0 m o_409 rfl) ones_nil) rfl (Nat.le_of_ble_eq_true rfl) rfl (fun w m => ?_)
       have m : Mem W G_403 w (it_408 :: Itm.box b_2 29 [(.slice none 0 0)] :: Itm.box b_31 29 [v_26] :: H) := m
       refine l_nil ?_
       refine k_region ?_
       refine l_op f rfl rfl rfl (r_move (f.eval rfl)) (fun a f => ?_)
       refine l_op f rfl rfl rfl (r_int (f.eval rfl) (f.eval rfl) b_add) (fun a f => ?_)
       refine l_op f rfl rfl rfl (r_assign (f.eval rfl)) (fun a f => ?_)
       refine l_nil ?_
       have m : Mem W G_403 w (Itm.box b_31 29 [v_26] :: it_408 :: Itm.box b_2 29 [(.slice none 0 0)] :: H) := m.front 2 rfl
       have m : Mem W G_403 w (Itm.box b_2 29 [(.slice none 0 0)] :: Itm.box b_31 29 [v_26] :: it_408 :: H) := m.front 2 rfl
       obtain rfl := Option.some.inj hs_215
       exact ⟨_, rfl, _, _, rfl, _, it_408, (GLe.trans hl_224 (GLe.trans hl_353 (GLe.trans hl_400 hl_404))), f.weak ⟨rfl, rfl, rfl, rfl, rfl, trivial⟩, m, o_409⟩
    ·refine k_false f rfl hc_318 ?_
     refine k_exit rfl ?_
     have m : Mem W G_219 w (it_222 :: Itm.box b_2 29 [(.slice none 0 0)] :: Itm.box b_31 29 [v_26] :: H) := m.front 2 rfl
     have m : Mem W G_219 w (Itm.box b_31 29 [v_26] :: it_222 :: Itm.box b_2 29 [(.slice none 0 0)] :: H) := m.front 2 rfl
     have m : Mem W G_219 w (Itm.box b_2 29 [(.slice none 0 0)] :: Itm.box b_31 29 [v_26] :: it_222 :: H) := m.front 2 rfl
     obtain rfl := Option.some.inj hs_215
     obtain rfl := hq_216 _ rfl
     exact ⟨_, rfl, _, rfl, _, it_222, hl_224, f.weak ⟨rfl, rfl, trivial⟩, m, o_223⟩
   ·rintro a w ⟨_, rfl, l_314, rfl, G_313, it_315, hl_317, f, m, o_316⟩
    refine k_seq ?_
    refine k_region ?_
    refine l_boxAgg 1 0 (ds := [v_26]) m Ag29 f rfl rfl rfl rfl rfl (fun a f => ?_)
    refine l_boxStore 0 0 (ds := [v_26]) m Tryd.sizeOf29 f rfl rfl rfl (ones_cons (Ow.one1 2 m o_316 rfl) ones_nil) rfl (Nat.le_of_ble_eq_true rfl) rfl (fun w m => ?_)
    have m : Mem W G_313 w (Itm.box b_2 29 [v_26] :: Itm.box b_31 29 [v_26] :: it_315 :: H) := m
    refine l_op f rfl rfl rfl (r_assign (f.eval rfl)) (fun a f => ?_)
    refine l_nil ?_
    refine k_ret ?_
    have rc_410 := rr_agg (P := Tryd.prog) 0 m Ag29 f (s := 4) rfl rfl rfl
    have m : Mem W G_313 w (it_315 :: Itm.box b_2 29 [v_26] :: Itm.box b_31 29 [v_26] :: H) := m.front 2 rfl
    have m : Mem W G_313 w (it_315 :: Itm.box b_2 29 [v_26] :: H) := m.eraseAt 2
    have m : Mem W G_313 w (it_315 :: H) := m.eraseAt 1
    obtain rfl := Option.some.inj hd
    exact ⟨[(.agg #[v_26]), (.bool true)], ⟨rc_410, f.get _ _ rfl, trivial⟩, f.defers, _, [it_315], (GLe.trans hl_6 (GLe.trans hl_12 (GLe.trans hl_22 hl_317))), m, _, _, rfl, rfl, o_316⟩

theorem Wk.laws_w9Graph {W w : World} {G : GH} {H : List Itm} {v0_0 : Value} {b0 : Nat} {x0_0 : (List Int)} {x0_1 : Int} {x0_2 : Int} {x1 : Int} (m : Mem W G w (Itm.box b0 55 [v0_0, (.int .i64 x0_1), (.int .u64 x0_2)] :: H)) (h0_0 : RSl (RI .u8) G v0_0 x0_0) {y : ((List (List Int))) × ((List Int)) × Int × Int} (hd : D.laws_w9Graph x0_0 x0_1 x0_2 x1 = some y) :
  Calls Tryd.prog 8 #[(.pointer (some ⟨b0, 0, none⟩)), (.int .i64 x1)] w (Res W G H (fun G' Ho v => ∃ r0 : Value, ∃ i0 : Itm, ∃ r2 : Value, Ho = [i0, Itm.box b0 55 [r2, (.int .i64 y.2.2.1), (.int .u64 y.2.2.2)]] ∧ v = (.agg #[r0]) ∧ Ow (RSl (RI .i64)) 31 G' i0 r0 y.1 ∧ RSl (RI .u8) G' r2 y.2.1)) := by
 refine calls_b (args := [(.pointer (some ⟨b0, 0, none⟩)), (.int .i64 x1)]) (N := 47) [.cell 4 29] Tryd.func8 rfl rfl (Nat.le_of_ble_eq_true rfl) rfl (fun a f => ?_)
 unfold D.laws_w9Graph at hd
 refine k_seq ?_
 refine k_region ?_
 refine l_alloc (cs := [(.slice none 0 0)]) Tryd.zeroValue29 m f rfl rfl (fun b_2 w a m f => ?_)
 refine l_nil ?_
 refine k_seq ?_
 refine k_region ?_
 refine l_op f rfl rfl rfl (r_move (f.eval rfl)) (fun a f => ?_)
 refine l_op f rfl rfl rfl (r_move (f.eval rfl)) (fun a f => ?_)
 have m : Mem W G w (Itm.box b0 55 [v0_0, (.int .i64 x0_1), (.int .u64 x0_2)] :: Itm.box b_2 29 [(.slice none 0 0)] :: H) := m.front 1 rfl
 obtain ⟨y_3, hy_4, hd⟩ := bind_some hd
 refine l_res f rfl rfl Tryd.call41 (Wk.laws_dice_below m h0_0 hy_4) (fun v_8 G_5 Ho_9 w hl_6 m hQ_7 a f => ?_)
 obtain ⟨v_10, rfl, rfl, h_11⟩ := hQ_7
 have m : Mem W G_5 w (Itm.box b0 55 [v_10, (.int .i64 y_3.2.2.1), (.int .u64 y_3.2.2.2)] :: Itm.box b_2 29 [(.slice none 0 0)] :: H) := m
 refine l_op f rfl rfl rfl (r_int (f.eval rfl) (f.eval rfl) b_add) (fun a f => ?_)
 refine l_op f rfl rfl rfl (r_assign (f.eval rfl)) (fun a f => ?_)
 refine l_nil ?_
 refine k_seq ?_
 refine k_region ?_
 refine l_op f rfl rfl rfl (r_move (f.eval rfl)) (fun a f => ?_)
 obtain ⟨y_12, hy_13, hd⟩ := bind_some hd
 refine l_res f rfl rfl Tryd.call41 (Wk.laws_dice_below m h_11 hy_13) (fun v_17 G_14 Ho_18 w hl_15 m hQ_16 a f => ?_)
 obtain ⟨v_19, rfl, rfl, h_20⟩ := hQ_16
 have m : Mem W G_14 w (Itm.box b0 55 [v_19, (.int .i64 y_12.2.2.1), (.int .u64 y_12.2.2.2)] :: Itm.box b_2 29 [(.slice none 0 0)] :: H) := m
 refine l_op f rfl rfl rfl (r_int (f.eval rfl) (f.eval rfl) b_add) (fun a f => ?_)
 refine l_op f rfl rfl rfl (r_assign (f.eval rfl)) (fun a f => ?_)
 refine l_nil ?_
 refine k_seq ?_
 refine k_region ?_
 refine l_slit (R := (RSl (RI .i64))) (xs := ([] : List (List Int))) (RSl.one _) m T27 f rfl rfl rfl (by decide) (All2.nil _) (fun it_21 v_22 w a m o_23 f => ?_)
 refine l_op f rfl rfl rfl (r_assign (f.eval rfl)) (fun a f => ?_)
 refine l_nil ?_
 refine k_seq ?_
 refine k_seq ?_
 refine k_region ?_
 refine l_op f rfl rfl rfl (r_assign (f.eval rfl)) (fun a f => ?_)
 refine l_nil ?_
 obtain ⟨q_349, hl_350, hd⟩ := bind_some hd
 refine k_cut (fun a w => ∃ l_525 : List (List Int), ∃ l_530 : List Int, ∃ x_533 : Int, ∃ x_534 : Int, (l_525, l_530, x_533, x_534) = q_349 ∧ ∃ (G_524 : GH) (v_526 : Value) (it_527 : Itm) (v_531 : Value), GLe G_14 G_524 ∧ Fr a 47 [(4, (.pointer (some ⟨b_2, 0, none⟩))), (5, (.int .i64 (IntKind.i64.wrap (1 + y_3.1)))), (7, v_526)] ∧ Mem W G_524 w (Itm.box b_2 29 [(.slice none 0 0)] :: Itm.box b0 55 [v_531, (.int .i64 x_533), (.int .u64 x_534)] :: it_527 :: H) ∧ Ow (RSl (RI .i64)) 31 G_524 it_527 v_526 l_525 ∧ RSl (RI .u8) G_524 v_531 l_530) ?_ ?_
 ·refine k_block ?_
  have m : Mem W G_14 w (Itm.box b_2 29 [(.slice none 0 0)] :: it_21 :: Itm.box b0 55 [v_19, (.int .i64 y_12.2.2.1), (.int .u64 y_12.2.2.2)] :: H) := m.front 2 rfl
  have m : Mem W G_14 w (Itm.box b0 55 [v_19, (.int .i64 y_12.2.2.1), (.int .u64 y_12.2.2.2)] :: Itm.box b_2 29 [(.slice none 0 0)] :: it_21 :: H) := m.front 2 rfl
  refine k_loop (fun s_353 a w => ∃ l_356 : List (List Int), ∃ x_361 : Int, ∃ l_362 : List Int, ∃ x_365 : Int, ∃ x_366 : Int, (l_356, x_361, l_362, x_365, x_366) = s_353 ∧ ∃ (G_355 : GH) (v_357 : Value) (it_358 : Itm) (v_363 : Value), GLe G_14 G_355 ∧ Fr a 47 [(0, (.pointer (some ⟨b0, 0, none⟩))), (4, (.pointer (some ⟨b_2, 0, none⟩))), (5, (.int .i64 (IntKind.i64.wrap (1 + y_3.1)))), (6, (.int .i64 (IntKind.i64.wrap (1 + y_12.1)))), (7, v_357), (8, (.int .i64 x_361))] ∧ Mem W G_355 w (Itm.box b0 55 [v_363, (.int .i64 x_365), (.int .u64 x_366)] :: Itm.box b_2 29 [(.slice none 0 0)] :: it_358 :: H) ∧ Ow (RSl (RI .i64)) 31 G_355 it_358 v_357 l_356 ∧ RSl (RI .u8) G_355 v_363 l_362) hl_350 ⟨_, _, _, _, _, rfl, _, v_22, it_21, v_19, (GLe.refl _), f.weak ⟨rfl, rfl, rfl, rfl, rfl, rfl, trivial⟩, m, o_23, h_20⟩ ?_
  clear hl_350 f m
  rintro s_353 o_354 hs_351 hq_352 a w ⟨l_356, x_361, l_362, x_365, x_366, rfl, G_355, v_357, it_358, v_363, hl_367, f, m, o_359, h_364⟩
  refine k_seq ?_
  refine k_seq ?_
  refine k_region ?_
  refine l_op f rfl rfl rfl (r_move (f.eval rfl)) (fun a f => ?_)
  refine l_op f rfl rfl rfl (r_move (f.eval rfl)) (fun a f => ?_)
  refine l_op f rfl rfl rfl (r_int (f.eval rfl) (f.eval rfl) b_lss) (fun a f => ?_)
  refine l_nil ?_
  rcases cond_some hs_351 with ⟨hc_536, hs_351⟩ | ⟨hc_536, hs_351⟩
  ·refine k_true f rfl hc_536 ?_
   refine k_skip ?_
   refine k_seq ?_
   refine k_block ?_
   refine k_seq ?_
   refine k_region ?_
   refine l_op f rfl rfl rfl (r_assign (f.eval rfl)) (fun a f => ?_)
   refine l_nil ?_
   obtain ⟨q_605, hl_606, hs_351⟩ := bind_some hs_351
   refine k_cut (fun a w => ∃ l_653 : List (List Int), ∃ l_658 : List Int, ∃ x_661 : Int, ∃ x_662 : Int, (l_653, l_658, x_661, x_662) = q_605 ∧ ∃ (G_652 : GH) (v_654 : Value) (it_655 : Itm) (v_659 : Value), GLe G_355 G_652 ∧ Fr a 47 [(0, (.pointer (some ⟨b0, 0, none⟩))), (4, (.pointer (some ⟨b_2, 0, none⟩))), (5, (.int .i64 (IntKind.i64.wrap (1 + y_3.1)))), (6, (.int .i64 (IntKind.i64.wrap (1 + y_12.1)))), (7, v_654), (8, (.int .i64 x_361))] ∧ Mem W G_652 w (Itm.box b0 55 [v_659, (.int .i64 x_661), (.int .u64 x_662)] :: Itm.box b_2 29 [(.slice none 0 0)] :: it_655 :: H) ∧ Ow (RSl (RI .i64)) 31 G_652 it_655 v_654 l_653 ∧ RSl (RI .u8) G_652 v_659 l_658) ?_ ?_
   ·refine k_block ?_
    have m : Mem W G_355 w (it_358 :: Itm.box b0 55 [v_363, (.int .i64 x_365), (.int .u64 x_366)] :: Itm.box b_2 29 [(.slice none 0 0)] :: H) := m.front 2 rfl
    have m : Mem W G_355 w (Itm.box b_2 29 [(.slice none 0 0)] :: it_358 :: Itm.box b0 55 [v_363, (.int .i64 x_365), (.int .u64 x_366)] :: H) := m.front 2 rfl
    have m : Mem W G_355 w (Itm.box b0 55 [v_363, (.int .i64 x_365), (.int .u64 x_366)] :: Itm.box b_2 29 [(.slice none 0 0)] :: it_358 :: H) := m.front 2 rfl
    refine k_loop (fun s_609 a w => ∃ l_612 : List (List Int), ∃ x_617 : Int, ∃ l_618 : List Int, ∃ x_621 : Int, ∃ x_622 : Int, (l_612, x_617, l_618, x_621, x_622) = s_609 ∧ ∃ (G_611 : GH) (v_613 : Value) (it_614 : Itm) (v_619 : Value), GLe G_355 G_611 ∧ Fr a 47 [(0, (.pointer (some ⟨b0, 0, none⟩))), (4, (.pointer (some ⟨b_2, 0, none⟩))), (5, (.int .i64 (IntKind.i64.wrap (1 + y_3.1)))), (6, (.int .i64 (IntKind.i64.wrap (1 + y_12.1)))), (7, v_613), (8, (.int .i64 x_361)), (9, (.int .i64 x_617))] ∧ Mem W G_611 w (Itm.box b0 55 [v_619, (.int .i64 x_621), (.int .u64 x_622)] :: Itm.box b_2 29 [(.slice none 0 0)] :: it_614 :: H) ∧ Ow (RSl (RI .i64)) 31 G_611 it_614 v_613 l_612 ∧ RSl (RI .u8) G_611 v_619 l_618) hl_606 ⟨_, _, _, _, _, rfl, _, v_357, it_358, v_363, (GLe.refl _), f.weak ⟨rfl, rfl, rfl, rfl, rfl, rfl, rfl, trivial⟩, m, o_359, h_364⟩ ?_
    clear hl_606 f m
    rintro s_609 o_610 hs_607 hq_608 a w ⟨l_612, x_617, l_618, x_621, x_622, rfl, G_611, v_613, it_614, v_619, hl_623, f, m, o_615, h_620⟩
    refine k_seq ?_
    refine k_seq ?_
    refine k_region ?_
    refine l_op f rfl rfl rfl (r_move (f.eval rfl)) (fun a f => ?_)
    refine l_op f rfl rfl rfl (r_move (f.eval rfl)) (fun a f => ?_)
    refine l_op f rfl rfl rfl (r_int (f.eval rfl) (f.eval rfl) b_lss) (fun a f => ?_)
    refine l_nil ?_
    rcases cond_some hs_607 with ⟨hc_664, hs_607⟩ | ⟨hc_664, hs_607⟩
    ·refine k_true f rfl hc_664 ?_
     refine k_skip ?_
     refine k_seq ?_
     refine k_block ?_
     refine k_seq ?_
     refine k_region ?_
     refine l_op f rfl rfl rfl (r_move (f.eval rfl)) (fun a f => ?_)
     obtain ⟨y_665, hy_666, hs_607⟩ := bind_some hs_607
     refine l_res f rfl rfl Tryd.call41 (Wk.laws_dice_below m h_620 hy_666) (fun v_670 G_667 Ho_671 w hl_668 m hQ_669 a f => ?_)
     obtain ⟨v_672, rfl, rfl, h_673⟩ := hQ_669
     have o_615 := Ow.mono (RSl.mono (RI.mono _)) hl_668 o_615
     have m : Mem W G_667 w (Itm.box b0 55 [v_672, (.int .i64 y_665.2.2.1), (.int .u64 y_665.2.2.2)] :: Itm.box b_2 29 [(.slice none 0 0)] :: it_614 :: H) := m
     refine l_op f rfl rfl rfl (r_move (f.eval rfl)) (fun a f => ?_)
     refine l_op f rfl rfl rfl (r_int (f.eval rfl) (f.eval rfl) b_lss) (fun a f => ?_)
     refine l_nil ?_
     rcases cond_some hs_607 with ⟨hc_674, hs_607⟩ | ⟨hc_674, hs_607⟩
     ·refine k_true f rfl hc_674 ?_
      refine k_region ?_
      refine l_op f rfl rfl rfl (r_move (f.eval rfl)) (fun a f => ?_)
      refine l_op f rfl rfl rfl (r_move (f.eval rfl)) (fun a f => ?_)
      refine l_op f rfl rfl rfl (r_move (f.eval rfl)) (fun a f => ?_)
      refine l_slit (R := (RI .i64)) (xs := ([x_617, x_361] : List Int)) (RI.one _) m T31 f rfl rfl rfl (by decide) (All2.cons rfl (All2.cons rfl (All2.nil _))) (fun it_675 v_676 w a m o_677 f => ?_)
      obtain ⟨G_679, hl_680, m, h_681⟩ := Ow.stamp (RI.mono _) o_677 m
      have h_673 := RSl.mono (RI.mono _) _ _ _ _ hl_680 h_673
      have o_615 := Ow.mono (RSl.mono (RI.mono _)) hl_680 o_615
      have m : Mem W G_679 w (Itm.box b0 55 [v_672, (.int .i64 y_665.2.2.1), (.int .u64 y_665.2.2.2)] :: Itm.box b_2 29 [(.slice none 0 0)] :: it_614 :: H) := m
      refine l_slit (R := (RSl (RI .i64))) (xs := ([([x_617, x_361] : List Int)] : List (List Int))) (RSl.one _) m T27 f rfl rfl rfl (by decide) (All2.cons h_681 (All2.nil _)) (fun it_682 v_683 w a m o_684 f => ?_)
      obtain ⟨l_686, hx_687, hs_607⟩ := bind_some hs_607
      refine l_append (RSl.one _) 3 m o_615 rfl T27 rfl (by decide) f rfl rfl rfl (Ow.src (j := 0) o_684 m rfl) hx_687 (fun it_688 v_689 w a m o_690 f => ?_)
      have m : Mem W G_679 w (it_682 :: Itm.box b0 55 [v_672, (.int .i64 y_665.2.2.1), (.int .u64 y_665.2.2.2)] :: Itm.box b_2 29 [(.slice none 0 0)] :: it_688 :: H) := m
      refine l_op f rfl rfl rfl (r_assign (f.eval rfl)) (fun a f => ?_)
      refine l_nil ?_
      refine k_region ?_
      refine l_op f rfl rfl rfl (r_move (f.eval rfl)) (fun a f => ?_)
      refine l_op f rfl rfl rfl (r_int (f.eval rfl) (f.eval rfl) b_add) (fun a f => ?_)
      refine l_op f rfl rfl rfl (r_assign (f.eval rfl)) (fun a f => ?_)
      refine l_nil ?_
      have m : Mem W G_679 w (it_688 :: it_682 :: Itm.box b0 55 [v_672, (.int .i64 y_665.2.2.1), (.int .u64 y_665.2.2.2)] :: Itm.box b_2 29 [(.slice none 0 0)] :: H) := m.front 3 rfl
      have m : Mem W G_679 w (Itm.box b_2 29 [(.slice none 0 0)] :: it_688 :: it_682 :: Itm.box b0 55 [v_672, (.int .i64 y_665.2.2.1), (.int .u64 y_665.2.2.2)] :: H) := m.front 3 rfl
      have m : Mem W G_679 w (Itm.box b0 55 [v_672, (.int .i64 y_665.2.2.1), (.int .u64 y_665.2.2.2)] :: Itm.box b_2 29 [(.slice none 0 0)] :: it_688 :: it_682 :: H) := m.front 3 rfl
      have m : Mem W G_679 w (Itm.box b0 55 [v_672, (.int .i64 y_665.2.2.1), (.int .u64 y_665.2.2.2)] :: Itm.box b_2 29 [(.slice none 0 0)] :: it_688 :: H) := m.eraseAt 3
      obtain rfl := Option.some.inj hs_607
      exact ⟨_, rfl, _, _, _, _, _, rfl, _, v_689, it_688, v_672, (GLe.trans hl_623 (GLe.trans hl_668 hl_680)), f.weak ⟨rfl, rfl, rfl, rfl, rfl, rfl, rfl, trivial⟩, m, o_690, h_673⟩
     ·refine k_false f rfl hc_674 ?_
      refine k_skip ?_
      refine k_region ?_
      refine l_op f rfl rfl rfl (r_move (f.eval rfl)) (fun a f => ?_)
      refine l_op f rfl rfl rfl (r_int (f.eval rfl) (f.eval rfl) b_add) (fun a f => ?_)
      refine l_op f rfl rfl rfl (r_assign (f.eval rfl)) (fun a f => ?_)
      refine l_nil ?_
      have m : Mem W G_667 w (it_614 :: Itm.box b0 55 [v_672, (.int .i64 y_665.2.2.1), (.int .u64 y_665.2.2.2)] :: Itm.box b_2 29 [(.slice none 0 0)] :: H) := m.front 2 rfl
      have m : Mem W G_667 w (Itm.box b_2 29 [(.slice none 0 0)] :: it_614 :: Itm.box b0 55 [v_672, (.int .i64 y_665.2.2.1), (.int .u64 y_665.2.2.2)] :: H) := m.front 2 rfl
      have m : Mem W G_667 w (Itm.box b0 55 [v_672, (.int .i64 y_665.2.2.1), (.int .u64 y_665.2.2.2)] :: Itm.box b_2 29 [(.slice none 0 0)] :: it_614 :: H) := m.front 2 rfl
      obtain rfl := Option.some.inj hs_607
      exact ⟨_, rfl, _, _, _, _, _, rfl, _, v_613, it_614, v_672, (GLe.trans hl_623 hl_668), f.weak ⟨rfl, rfl, rfl, rfl, rfl, rfl, rfl, trivial⟩, m, o_615, h_673⟩
    ·refine k_false f rfl hc_664 ?_
     refine k_exit rfl ?_
     have m : Mem W G_611 w (it_614 :: Itm.box b0 55 [v_619, (.int .i64 x_621), (.int .u64 x_622)] :: Itm.box b_2 29 [(.slice none 0 0)] :: H) := m.front 2 rfl
     have m : Mem W G_611 w (Itm.box b_2 29 [(.slice none 0 0)] :: it_614 :: Itm.box b0 55 [v_619, (.int .i64 x_621), (.int .u64 x_622)] :: H) := m.front 2 rfl
     have m : Mem W G_611 w (Itm.box b0 55 [v_619, (.int .i64 x_621), (.int .u64 x_622)] :: Itm.box b_2 29 [(.slice none 0 0)] :: it_614 :: H) := m.front 2 rfl
     obtain rfl := Option.some.inj hs_607
     obtain rfl := hq_608 _ rfl
     exact ⟨_, _, _, _, rfl, _, v_613, it_614, v_619, hl_623, f.weak ⟨rfl, rfl, rfl, rfl, rfl, rfl, trivial⟩, m, o_615, h_620⟩
   ·rintro a w ⟨l_653, l_658, x_661, x_662, rfl, G_652, v_654, it_655, v_659, hl_663, f, m, o_656, h_660⟩
    refine k_region ?_
    refine l_op f rfl rfl rfl (r_move (f.eval rfl)) (fun a f => ?_)
    refine l_op f rfl rfl rfl (r_int (f.eval rfl) (f.eval rfl) b_add) (fun a f => ?_)
    refine l_op f rfl rfl rfl (r_assign (f.eval rfl)) (fun a f => ?_)
    refine l_nil ?_
    have m : Mem W G_652 w (it_655 :: Itm.box b0 55 [v_659, (.int .i64 x_661), (.int .u64 x_662)] :: Itm.box b_2 29 [(.slice none 0 0)] :: H) := m.front 2 rfl
    have m : Mem W G_652 w (Itm.box b_2 29 [(.slice none 0 0)] :: it_655 :: Itm.box b0 55 [v_659, (.int .i64 x_661), (.int .u64 x_662)] :: H) := m.front 2 rfl
    have m : Mem W G_652 w (Itm.box b0 55 [v_659, (.int .i64 x_661), (.int .u64 x_662)] :: Itm.box b_2 29 [(.slice none 0 0)] :: it_655 :: H) := m.front 2 rfl
    obtain rfl := Option.some.inj hs_351
    exact ⟨_, rfl, _, _, _, _, _, rfl, _, v_654, it_655, v_659, (GLe.trans hl_367 hl_663), f.weak ⟨rfl, rfl, rfl, rfl, rfl, rfl, trivial⟩, m, o_656, h_660⟩
  ·refine k_false f rfl hc_536 ?_
   refine k_exit rfl ?_
   have m : Mem W G_355 w (it_358 :: Itm.box b0 55 [v_363, (.int .i64 x_365), (.int .u64 x_366)] :: Itm.box b_2 29 [(.slice none 0 0)] :: H) := m.front 2 rfl
   have m : Mem W G_355 w (Itm.box b0 55 [v_363, (.int .i64 x_365), (.int .u64 x_366)] :: it_358 :: Itm.box b_2 29 [(.slice none 0 0)] :: H) := m.front 1 rfl
   have m : Mem W G_355 w (Itm.box b_2 29 [(.slice none 0 0)] :: Itm.box b0 55 [v_363, (.int .i64 x_365), (.int .u64 x_366)] :: it_358 :: H) := m.front 2 rfl
   obtain rfl := Option.some.inj hs_351
   obtain rfl := hq_352 _ rfl
   exact ⟨_, _, _, _, rfl, _, v_357, it_358, v_363, hl_367, f.weak ⟨rfl, rfl, rfl, trivial⟩, m, o_359, h_364⟩
 ·rintro a w ⟨l_525, l_530, x_533, x_534, rfl, G_524, v_526, it_527, v_531, hl_535, f, m, o_528, h_532⟩
  refine k_seq ?_
  refine k_region ?_
  refine l_op f rfl rfl rfl (r_move (f.eval rfl)) (fun a f => ?_)
  refine l_op f rfl rfl rfl (r_move (f.eval rfl)) (fun a f => ?_)
  have m : Mem W G_524 w (it_527 :: Itm.box b_2 29 [(.slice none 0 0)] :: Itm.box b0 55 [v_531, (.int .i64 x_533), (.int .u64 x_534)] :: H) := m.front 2 rfl
  obtain ⟨G_692, hl_693, m, h_694⟩ := Ow.stamp (RSl.mono (RI.mono _)) o_528 m
  have h_532 := RSl.mono (RI.mono _) _ _ _ _ hl_693 h_532
  have m : Mem W G_692 w (Itm.box b_2 29 [(.slice none 0 0)] :: Itm.box b0 55 [v_531, (.int .i64 x_533), (.int .u64 x_534)] :: H) := m
  obtain ⟨y_695, hy_696, hd⟩ := bind_some hd
  refine l_res f rfl rfl Tryd.call42 (Wk.spec_GraphOf m h_694 hy_696) (fun v_700 G_697 Ho_701 w hl_698 m hQ_699 a f => ?_)
  obtain ⟨v_702, it_703, rfl, rfl, o_704⟩ := hQ_699
  have h_694 := RSl.mono (RSl.mono (RI.mono _)) _ _ _ _ hl_698 h_694
  have h_532 := RSl.mono (RI.mono _) _ _ _ _ hl_698 h_532
  have m : Mem W G_697 w (it_703 :: Itm.box b_2 29 [(.slice none 0 0)] :: Itm.box b0 55 [v_531, (.int .i64 x_533), (.int .u64 x_534)] :: H) := m
  refine l_op f rfl rfl rfl (r_move (f.eval rfl)) (fun a f => ?_)
  refine l_op f rfl rfl rfl (r_extract (f.eval rfl) rfl) (fun a f => ?_)
  refine l_op f rfl rfl rfl (r_extract (f.eval rfl) rfl) (fun a f => ?_)
  refine l_alloc (cs := [(.slice none 0 0)]) Tryd.zeroValue29 m f rfl rfl (fun b_707 w a m f => ?_)
  refine l_boxStore 0 0 (ds := [v_702]) m Tryd.sizeOf29 f rfl rfl rfl (ones_cons (Ow.one1 1 m o_704 rfl) ones_nil) rfl (Nat.le_of_ble_eq_true rfl) rfl (fun w m => ?_)
  have m : Mem W G_697 w (Itm.box b_707 29 [v_702] :: it_703 :: Itm.box b_2 29 [(.slice none 0 0)] :: Itm.box b0 55 [v_531, (.int .i64 x_533), (.int .u64 x_534)] :: H) := m
  refine l_op f rfl rfl rfl (r_assign (f.eval rfl)) (fun a f => ?_)
  refine l_nil ?_
  refine k_seq ?_
  refine k_region ?_
  refine l_boxAgg 0 0 (ds := [v_702]) m Ag29 f rfl rfl rfl rfl rfl (fun a f => ?_)
  refine l_boxStore 2 0 (ds := [v_702]) m Tryd.sizeOf29 f rfl rfl rfl (ones_cons (Ow.one1 1 m o_704 rfl) ones_nil) rfl (Nat.le_of_ble_eq_true rfl) rfl (fun w m => ?_)
  have m : Mem W G_697 w (Itm.box b_707 29 [v_702] :: it_703 :: Itm.box b_2 29 [v_702] :: Itm.box b0 55 [v_531, (.int .i64 x_533), (.int .u64 x_534)] :: H) := m
  refine l_nil ?_
  refine k_ret ?_
  have rc_708 := rr_agg (P := Tryd.prog) 2 m Ag29 f (s := 4) rfl rfl rfl
  have m : Mem W G_697 w (Itm.box b0 55 [v_531, (.int .i64 x_533), (.int .u64 x_534)] :: Itm.box b_707 29 [v_702] :: it_703 :: Itm.box b_2 29 [v_702] :: H) := m.front 3 rfl
  have m : Mem W G_697 w (it_703 :: Itm.box b0 55 [v_531, (.int .i64 x_533), (.int .u64 x_534)] :: Itm.box b_707 29 [v_702] :: Itm.box b_2 29 [v_702] :: H) := m.front 2 rfl
  have m : Mem W G_697 w (it_703 :: Itm.box b0 55 [v_531, (.int .i64 x_533), (.int .u64 x_534)] :: Itm.box b_707 29 [v_702] :: H) := m.eraseAt 3
  have m : Mem W G_697 w (it_703 :: Itm.box b0 55 [v_531, (.int .i64 x_533), (.int .u64 x_534)] :: H) := m.eraseAt 2
  obtain rfl := Option.some.inj hd
  exact ⟨[(.agg #[v_702])], ⟨rc_708, trivial⟩, f.defers, _, [it_703, Itm.box b0 55 [v_531, (.int .i64 x_533), (.int .u64 x_534)]], (GLe.trans hl_6 (GLe.trans hl_15 (GLe.trans hl_535 (GLe.trans hl_693 hl_698)))), m, _, _, _, rfl, rfl, o_704, h_532⟩

theorem Wk.laws_w9Order {W w : World} {G : GH} {H : List Itm} {v0_0 : Value} {b0 : Nat} {x0_0 : (List Int)} {x0_1 : Int} {x0_2 : Int} {x1 : Int} (m : Mem W G w (Itm.box b0 55 [v0_0, (.int .i64 x0_1), (.int .u64 x0_2)] :: H)) (h0_0 : RSl (RI .u8) G v0_0 x0_0) {y : ((List Int)) × ((List Int)) × Int × Int} (hd : D.laws_w9Order x0_0 x0_1 x0_2 x1 = some y) :
  Calls Tryd.prog 9 #[(.pointer (some ⟨b0, 0, none⟩)), (.int .i64 x1)] w (Res W G H (fun G' Ho v => ∃ r0 : Value, ∃ i0 : Itm, ∃ r2 : Value, Ho = [i0, Itm.box b0 55 [r2, (.int .i64 y.2.2.1), (.int .u64 y.2.2.2)]] ∧ r0 = v ∧ Ow (RI .i64) 2 G' i0 r0 y.1 ∧ RSl (RI .u8) G' r2 y.2.1)) := by
 refine calls_b (args := [(.pointer (some ⟨b0, 0, none⟩)), (.int .i64 x1)]) (N := 35) [.tmp 4] Tryd.func9 rfl rfl (Nat.le_of_ble_eq_true rfl) rfl (fun a f => ?_)
 unfold D.laws_w9Order at hd
 refine k_seq ?_
 refine k_region ?_
 refine l_op f rfl rfl rfl (r_assign (f.eval rfl)) (fun a f => ?_)
 refine l_nil ?_
 refine k_seq ?_
 refine k_region ?_
 refine l_slit (R := (RI .i64)) (xs := ([] : List Int)) (RI.one _) m T31 f rfl rfl rfl (by decide) (All2.nil _) (fun it_1 v_2 w a m o_3 f => ?_)
 refine l_op f rfl rfl rfl (r_assign (f.eval rfl)) (fun a f => ?_)
 refine l_nil ?_
 refine k_seq ?_
 refine k_seq ?_
 refine k_region ?_
 refine l_op f rfl rfl rfl (r_assign (f.eval rfl)) (fun a f => ?_)
 refine l_nil ?_
 obtain ⟨q_111, hl_112, hd⟩ := bind_some hd
 refine k_cut (fun a w => ∃ l_178 : List Int, ∃ l_183 : List Int, ∃ x_186 : Int, ∃ x_187 : Int, (l_178, l_183, x_186, x_187) = q_111 ∧ ∃ (G_177 : GH) (v_179 : Value) (it_180 : Itm) (v_184 : Value), GLe G G_177 ∧ Fr a 35 [(5, v_179)] ∧ Mem W G_177 w (Itm.box b0 55 [v_184, (.int .i64 x_186), (.int .u64 x_187)] :: it_180 :: H) ∧ Ow (RI .i64) 2 G_177 it_180 v_179 l_178 ∧ RSl (RI .u8) G_177 v_184 l_183) ?_ ?_
 ·refine k_block ?_
  have m : Mem W G w (Itm.box b0 55 [v0_0, (.int .i64 x0_1), (.int .u64 x0_2)] :: it_1 :: H) := m.front 1 rfl
  refine k_loop (fun s_115 a w => ∃ l_118 : List Int, ∃ x_123 : Int, ∃ l_124 : List Int, ∃ x_127 : Int, ∃ x_128 : Int, (l_118, x_123, l_124, x_127, x_128) = s_115 ∧ ∃ (G_117 : GH) (v_119 : Value) (it_120 : Itm) (v_125 : Value), GLe G G_117 ∧ Fr a 35 [(0, (.pointer (some ⟨b0, 0, none⟩))), (1, (.int .i64 x1)), (5, v_119), (6, (.int .i64 x_123))] ∧ Mem W G_117 w (Itm.box b0 55 [v_125, (.int .i64 x_127), (.int .u64 x_128)] :: it_120 :: H) ∧ Ow (RI .i64) 2 G_117 it_120 v_119 l_118 ∧ RSl (RI .u8) G_117 v_125 l_124) hl_112 ⟨_, _, _, _, _, rfl, _, v_2, it_1, v0_0, (GLe.refl _), f.weak ⟨rfl, rfl, rfl, rfl, trivial⟩, m, o_3, h0_0⟩ ?_
  clear hl_112 f m
  rintro s_115 o_116 hs_113 hq_114 a w ⟨l_118, x_123, l_124, x_127, x_128, rfl, G_117, v_119, it_120, v_125, hl_129, f, m, o_121, h_126⟩
  refine k_seq ?_
  refine k_seq ?_
  refine k_region ?_
  refine l_op f rfl rfl rfl (r_move (f.eval rfl)) (fun a f => ?_)
  refine l_op f rfl rfl rfl (r_move (f.eval rfl)) (fun a f => ?_)
  refine l_op f rfl rfl rfl (r_int (f.eval rfl) (f.eval rfl) b_lss) (fun a f => ?_)
  refine l_nil ?_
  rcases cond_some hs_113 with ⟨hc_189, hs_113⟩ | ⟨hc_189, hs_113⟩
  ·refine k_true f rfl hc_189 ?_
   refine k_skip ?_
   refine k_seq ?_
   refine k_block ?_
   refine k_seq ?_
   refine k_region ?_
   refine l_op f rfl rfl rfl (r_move (f.eval rfl)) (fun a f => ?_)
   refine l_op f rfl rfl rfl (r_move (f.eval rfl)) (fun a f => ?_)
   refine l_own_len 1 m o_121 rfl Tryd.underlying31 f rfl rfl (fun a f => ?_)
   refine l_op f rfl rfl rfl (r_int (f.eval rfl) (f.eval rfl) b_add) (fun a f => ?_)
   obtain ⟨y_190, hy_191, hs_113⟩ := bind_some hs_113
   refine l_res f rfl rfl Tryd.call41 (Wk.laws_dice_below m h_126 hy_191) (fun v_195 G_192 Ho_196 w hl_193 m hQ_194 a f => ?_)
   obtain ⟨v_197, rfl, rfl, h_198⟩ := hQ_194
   have o_121 := Ow.mono (RI.mono _) hl_193 o_121
   have m : Mem W G_192 w (Itm.box b0 55 [v_197, (.int .i64 y_190.2.2.1), (.int .u64 y_190.2.2.2)] :: it_120 :: H) := m
   refine l_op f rfl rfl rfl (r_assign (f.eval rfl)) (fun a f => ?_)
   refine l_nil ?_
   refine k_seq ?_
   refine k_region ?_
   refine l_slit (R := (RI .i64)) (xs := ([] : List Int)) (RI.one _) m T31 f rfl rfl rfl (by decide) (All2.nil _) (fun it_199 v_200 w a m o_201 f => ?_)
   refine l_op f rfl rfl rfl (r_move (f.eval rfl)) (fun a f => ?_)
   refine l_op f rfl rfl rfl (r_move (f.eval rfl)) (fun a f => ?_)
   have m : Mem W G_192 w (it_120 :: it_199 :: Itm.box b0 55 [v_197, (.int .i64 y_190.2.2.1), (.int .u64 y_190.2.2.2)] :: H) := m.front 2 rfl
   obtain ⟨G_203, hl_204, m, h_205⟩ := Ow.stamp (RI.mono _) o_121 m
   have o_201 := Ow.mono (RI.mono _) hl_204 o_201
   have h_198 := RSl.mono (RI.mono _) _ _ _ _ hl_204 h_198
   have m : Mem W G_203 w (it_199 :: Itm.box b0 55 [v_197, (.int .i64 y_190.2.2.1), (.int .u64 y_190.2.2.2)] :: H) := m
   obtain ⟨l_206, hx_207, hs_113⟩ := bind_some hs_113
   refine l_slice T31 f rfl rfl h_205 (.inl ⟨rfl, rfl⟩) (.inr ⟨_, _, rfl, rfl⟩) hx_207 (fun v_208 a h_209 f => ?_)
   obtain ⟨l_210, hx_211, hs_113⟩ := bind_some hs_113
   refine l_append (RI.one _) 0 m o_201 rfl T31 rfl (by decide) f rfl rfl rfl (h_209.src m) hx_211 (fun it_212 v_213 w a m o_214 f => ?_)
   have m : Mem W G_203 w (it_212 :: Itm.box b0 55 [v_197, (.int .i64 y_190.2.2.1), (.int .u64 y_190.2.2.2)] :: H) := m
   refine l_op f rfl rfl rfl (r_assign (f.eval rfl)) (fun a f => ?_)
   refine l_nil ?_
   refine k_seq ?_
   refine k_region ?_
   refine l_op f rfl rfl rfl (r_move (f.eval rfl)) (fun a f => ?_)
   refine l_op f rfl rfl rfl (r_move (f.eval rfl)) (fun a f => ?_)
   refine l_slit (R := (RI .i64)) (xs := ([x_123] : List Int)) (RI.one _) m T31 f rfl rfl rfl (by decide) (All2.cons rfl (All2.nil _)) (fun it_216 v_217 w a m o_218 f => ?_)
   obtain ⟨l_220, hx_221, hs_113⟩ := bind_some hs_113
   refine l_append (RI.one _) 1 m o_214 rfl T31 rfl (by decide) f rfl rfl rfl (Ow.src (j := 0) o_218 m rfl) hx_221 (fun it_222 v_223 w a m o_224 f => ?_)
   have m : Mem W G_203 w (it_216 :: it_222 :: Itm.box b0 55 [v_197, (.int .i64 y_190.2.2.1), (.int .u64 y_190.2.2.2)] :: H) := m
   refine l_op f rfl rfl rfl (r_assign (f.eval rfl)) (fun a f => ?_)
   refine l_nil ?_
   refine k_region ?_
   refine l_op f rfl rfl rfl (r_move (f.eval rfl)) (fun a f => ?_)
   refine l_op f rfl rfl rfl (r_move (f.eval rfl)) (fun a f => ?_)
   refine l_op f rfl rfl rfl (r_move (f.eval rfl)) (fun a f => ?_)
   obtain ⟨l_226, hx_227, hs_113⟩ := bind_some hs_113
   refine l_slice T31 f rfl rfl h_205 (.inr ⟨_, _, rfl, rfl⟩) (.inl ⟨rfl, rfl⟩) hx_227 (fun v_228 a h_229 f => ?_)
   obtain ⟨l_230, hx_231, hs_113⟩ := bind_some hs_113
   refine l_append (RI.one _) 1 m o_224 rfl T31 rfl (by decide) f rfl rfl rfl (h_229.src m) hx_231 (fun it_232 v_233 w a m o_234 f => ?_)
   have m : Mem W G_203 w (it_216 :: it_232 :: Itm.box b0 55 [v_197, (.int .i64 y_190.2.2.1), (.int .u64 y_190.2.2.2)] :: H) := m
   refine l_op f rfl rfl rfl (r_assign (f.eval rfl)) (fun a f => ?_)
   refine l_nil ?_
   refine k_region ?_
   refine l_op f rfl rfl rfl (r_move (f.eval rfl)) (fun a f => ?_)
   refine l_op f rfl rfl rfl (r_int (f.eval rfl) (f.eval rfl) b_add) (fun a f => ?_)
   refine l_op f rfl rfl rfl (r_assign (f.eval rfl)) (fun a f => ?_)
   refine l_nil ?_
   have m : Mem W G_203 w (it_232 :: it_216 :: Itm.box b0 55 [v_197, (.int .i64 y_190.2.2.1), (.int .u64 y_190.2.2.2)] :: H) := m.front 1 rfl
   have m : Mem W G_203 w (Itm.box b0 55 [v_197, (.int .i64 y_190.2.2.1), (.int .u64 y_190.2.2.2)] :: it_232 :: it_216 :: H) := m.front 2 rfl
   have m : Mem W G_203 w (Itm.box b0 55 [v_197, (.int .i64 y_190.2.2.1), (.int .u64 y_190.2.2.2)] :: it_232 :: H) := m.eraseAt 2
   obtain rfl := Option.some.inj hs_113
   exact ⟨_, rfl, _, _, _, _, _, rfl, _, v_233, it_232, v_197, (GLe.trans hl_129 (GLe.trans hl_193 hl_204)), f.weak ⟨rfl, rfl, rfl, rfl, trivial⟩, m, o_234, h_198⟩
  ·refine k_false f rfl hc_189 ?_
   refine k_exit rfl ?_
   have m : Mem W G_117 w (it_120 :: Itm.box b0 55 [v_125, (.int .i64 x_127), (.int .u64 x_128)] :: H) := m.front 1 rfl
   have m : Mem W G_117 w (Itm.box b0 55 [v_125, (.int .i64 x_127), (.int .u64 x_128)] :: it_120 :: H) := m.front 1 rfl
   obtain rfl := Option.some.inj hs_113
   obtain rfl := hq_114 _ rfl
   exact ⟨_, _, _, _, rfl, _, v_119, it_120, v_125, hl_129, f.weak ⟨rfl, trivial⟩, m, o_121, h_126⟩
 ·rintro a w ⟨l_178, l_183, x_186, x_187, rfl, G_177, v_179, it_180, v_184, hl_188, f, m, o_181, h_185⟩
  refine k_seq ?_
  refine k_region ?_
  refine l_op f rfl rfl rfl (r_move (f.eval rfl)) (fun a f => ?_)
  refine l_op f rfl rfl rfl (r_assign (f.eval rfl)) (fun a f => ?_)
  refine l_nil ?_
  refine k_ret ?_
  have m : Mem W G_177 w (it_180 :: Itm.box b0 55 [v_184, (.int .i64 x_186), (.int .u64 x_187)] :: H) := m.front 1 rfl
  obtain rfl := Option.some.inj hd
  exact ⟨[v_179], ⟨f.get _ _ rfl, trivial⟩, f.defers, _, [it_180, Itm.box b0 55 [v_184, (.int .i64 x_186), (.int .u64 x_187)]], hl_188, m, _, _, _, rfl, rfl, o_181, h_185⟩

theorem Wk.spec_l1Max {W w : World} {G : GH} {H : List Itm} {x0 : Int} {x1 : Int} (m : Mem W G w (H))  {y : Int} (hd : D.spec_l1Max x0 x1 = some y) :
  Calls Tryd.prog 65 #[(.int .i64 x0), (.int .i64 x1)] w (Res W G H (fun _ Ho v => Ho = [] ∧ v = (.int .i64 y))) := by
 refine calls_b (args := [(.int .i64 x0), (.int .i64 x1)]) (N := 10) [.tmp 4] Tryd.func65 rfl rfl (Nat.le_of_ble_eq_true rfl) rfl (fun a f => ?_)
 unfold D.spec_l1Max at hd
 refine k_seq ?_
 refine k_region ?_
 refine l_op f rfl rfl rfl (r_assign (f.eval rfl)) (fun a f => ?_)
 refine l_nil ?_
 refine k_seq ?_
 refine k_seq ?_
 refine k_region ?_
 refine l_op f rfl rfl rfl (r_move (f.eval rfl)) (fun a f => ?_)
 refine l_op f rfl rfl rfl (r_move (f.eval rfl)) (fun a f => ?_)
 refine l_op f rfl rfl rfl (r_int (f.eval rfl) (f.eval rfl) b_gtr) (fun a f => ?_)
 refine l_nil ?_
 rcases cond_some hd with ⟨hc_1, hd⟩ | ⟨hc_1, hd⟩
 ·refine k_true f rfl hc_1 ?_
  refine k_seq ?_
  refine k_region ?_
  refine l_op f rfl rfl rfl (r_move (f.eval rfl)) (fun a f => ?_)
  refine l_op f rfl rfl rfl (r_assign (f.eval rfl)) (fun a f => ?_)
  refine l_nil ?_
  refine k_ret ?_
  obtain rfl := Option.some.inj hd
  exact ⟨[(.int .i64 x0)], ⟨f.get _ _ rfl, trivial⟩, f.defers, _, [], (GLe.refl _), m, rfl, rfl⟩
 ·refine k_false f rfl hc_1 ?_
  refine k_skip ?_
  refine k_seq ?_
  refine k_region ?_
  refine l_op f rfl rfl rfl (r_move (f.eval rfl)) (fun a f => ?_)
  refine l_op f rfl rfl rfl (r_assign (f.eval rfl)) (fun a f => ?_)
  refine l_nil ?_
  refine k_ret ?_
  obtain rfl := Option.some.inj hd
  exact ⟨[(.int .i64 x1)], ⟨f.get _ _ rfl, trivial⟩, f.defers, _, [], (GLe.refl _), m, rfl, rfl⟩

theorem Wk.spec_Separation {W w : World} {G : GH} {H : List Itm} {v0_0 : Value} {v1 : Value} {x0_0 : (List (List Int))} {x1 : (List Int)} (m : Mem W G w (H)) (h0_0 : RSl (RSl (RI .i64)) G v0_0 x0_0) (h1 : RSl (RI .i64) G v1 x1) {y : Int} (hd : D.spec_Separation x0_0 x1 = some y) :
  Calls Tryd.prog 17 #[(.agg #[v0_0]), v1] w (Res W G H (fun _ Ho v => Ho = [] ∧ v = (.int .i64 y))) := by
 refine calls_b (args := [(.agg #[v0_0]), v1]) (N := 31) [.tmp 4] Tryd.func17 rfl rfl (Nat.le_of_ble_eq_true rfl) rfl (fun a f => ?_)
 unfold D.spec_Separation at hd
 refine k_seq ?_
 refine k_region ?_
 refine l_box (cs := [v0_0]) m f rfl rfl rfl (fun b_2 w a m f => ?_)
 refine l_op f rfl rfl rfl (r_assign (f.eval rfl)) (fun a f => ?_)
 refine l_nil ?_
 refine k_seq ?_
 refine k_seq ?_
 refine k_region ?_
 refine l_boxAgg 0 0 (ds := [v0_0]) m Ag29 f rfl rfl rfl rfl rfl (fun a f => ?_)
 obtain ⟨y_3, hy_4, hd⟩ := bind_some hd
 refine l_res f rfl rfl Tryd.call51 (Wk.spec_GraphOk m h0_0 hy_4) (fun v_8 G_5 Ho_9 w hl_6 m hQ_7 a f => ?_)
 obtain ⟨rfl, rfl⟩ := hQ_7
 have h0_0 := RSl.mono (RSl.mono (RI.mono _)) _ _ _ _ hl_6 h0_0
 have h1 := RSl.mono (RI.mono _) _ _ _ _ hl_6 h1
 have m : Mem W G_5 w (Itm.box b_2 29 [v0_0] :: H) := m
 refine l_op f rfl rfl rfl (r_not (f.eval rfl)) (fun a f => ?_)
 refine l_op f rfl rfl rfl (r_move (f.eval rfl)) (fun a f => ?_)
 obtain ⟨b_27, hj_28, hd⟩ := bind_some hd
 refine l_cut 5 (fun a w => ∃ G_25, GLe G_5 G_25 ∧ Mem W G_25 w (Itm.box b_2 29 [v0_0] :: H) ∧ Fr a 31 [(0, (.agg #[v0_0])), (1, v1), (2, (.pointer (some ⟨b_2, 0, none⟩))), (7, (.agg #[v0_0])), (8, (.bool y_3)), (9, (.bool (!y_3))), (10, (.bool (!y_3))), (15, (.bool b_27))]) ?_ ?_
 ·rcases cond_some hj_28 with ⟨hc_10, hj_28⟩ | ⟨hc_10, hj_28⟩
  ·refine l_not' f rfl rfl rfl hc_10 (fun a f => ?_)
   refine l_not' f rfl rfl rfl hc_10 (fun a f => ?_)
   refine l_not' f rfl rfl rfl hc_10 (fun a f => ?_)
   refine l_not' f rfl rfl rfl hc_10 (fun a f => ?_)
   refine l_op f rfl rfl rfl (r_pickT (f.eval rfl) hc_10 (f.eval rfl)) (fun a f => ?_)
   obtain rfl := Option.some.inj hj_28
   exact ⟨_, (GLe.refl _), m, f.weak ⟨rfl, rfl, rfl, rfl, rfl, rfl, rfl, rfl, trivial⟩⟩
  ·refine l_run f rfl rfl hc_10 ?_
   refine l_boxAgg 0 0 (ds := [v0_0]) m Ag29 f rfl rfl rfl rfl rfl (fun a f => ?_)
   refine l_run f rfl rfl hc_10 ?_
   refine l_op f rfl rfl rfl (r_move (f.eval rfl)) (fun a f => ?_)
   refine l_run f rfl rfl hc_10 ?_
   obtain ⟨y_29, hy_30, hj_28⟩ := bind_some hj_28
   refine l_res f rfl rfl Tryd.call16 (Wk.spec_OrderOk m h0_0 h1 hy_30) (fun v_34 G_31 Ho_35 w hl_32 m hQ_33 a f => ?_)
   obtain ⟨rfl, rfl⟩ := hQ_33
   have h0_0 := RSl.mono (RSl.mono (RI.mono _)) _ _ _ _ hl_32 h0_0
   have h1 := RSl.mono (RI.mono _) _ _ _ _ hl_32 h1
   have m : Mem W G_31 w (Itm.box b_2 29 [v0_0] :: H) := m
   refine l_run f rfl rfl hc_10 ?_
   refine l_op f rfl rfl rfl (r_not (f.eval rfl)) (fun a f => ?_)
   refine l_op f rfl rfl rfl (r_pickF (f.eval rfl) hc_10 (f.eval rfl)) (fun a f => ?_)
   obtain rfl := Option.some.inj hj_28
   exact ⟨_, hl_32, m, f.weak ⟨rfl, rfl, rfl, rfl, rfl, rfl, rfl, rfl, trivial⟩⟩
 ·rintro a w ⟨G_25, hl_26, m, f⟩
  have h0_0 := RSl.mono (RSl.mono (RI.mono _)) _ _ _ _ hl_26 h0_0
  have h1 := RSl.mono (RI.mono _) _ _ _ _ hl_26 h1
  refine l_nil ?_
  rcases cond_some hd with ⟨hc_36, hd⟩ | ⟨hc_36, hd⟩
  ·refine k_true f rfl hc_36 ?_
   refine k_seq ?_
   refine k_region ?_
   refine l_op f rfl rfl rfl (r_assign (f.eval rfl)) (fun a f => ?_)
   refine l_nil ?_
   refine k_ret ?_
   have m : Mem W G_25 w H := Mem.drop (H' := [Itm.box b_2 29 [v0_0]]) m
   obtain rfl := Option.some.inj hd
   exact ⟨[(.int .i64 (-1))], ⟨f.get _ _ rfl, trivial⟩, f.defers, _, [], (GLe.trans hl_6 hl_26), m, rfl, rfl⟩
  ·refine k_false f rfl hc_36 ?_
   refine k_skip ?_
   refine k_seq ?_
   refine k_region ?_
   refine l_op f rfl rfl rfl (r_assign (f.eval rfl)) (fun a f => ?_)
   refine l_nil ?_
   refine k_seq ?_
   refine k_seq ?_
   refine k_region ?_
   refine l_op f rfl rfl rfl (r_assign (f.eval rfl)) (fun a f => ?_)
   refine l_nil ?_
   obtain ⟨q_84, hl_85, hd⟩ := bind_some hd
   refine k_cut (fun a w => ∃ x_117 : Int, x_117 = q_84 ∧ ∃ (G_116 : GH), GLe G_25 G_116 ∧ Fr a 31 [(5, (.int .i64 x_117))] ∧ Mem W G_116 w (H)) ?_ ?_
   ·refine k_block ?_
    refine k_loop (fun s_88 a w => ∃ x_91 : Int, ∃ x_92 : Int, (x_91, x_92) = s_88 ∧ ∃ (G_90 : GH), GLe G_25 G_90 ∧ Fr a 31 [(1, v1), (2, (.pointer (some ⟨b_2, 0, none⟩))), (5, (.int .i64 x_91)), (6, (.int .i64 x_92))] ∧ Mem W G_90 w (Itm.box b_2 29 [v0_0] :: H)) hl_85 ⟨_, _, rfl, _, (GLe.refl _), f.weak ⟨rfl, rfl, rfl, rfl, trivial⟩, m⟩ ?_
    clear hl_85 f m
    rintro s_88 o_89 hs_86 hq_87 a w ⟨x_91, x_92, rfl, G_90, hl_93, f, m⟩
    have h1 := RSl.mono (RI.mono _) _ _ _ _ hl_93 h1
    have h0_0 := RSl.mono (RSl.mono (RI.mono _)) _ _ _ _ hl_93 h0_0
    refine k_seq ?_
    refine k_seq ?_
    refine k_region ?_
    refine l_op f rfl rfl rfl (r_move (f.eval rfl)) (fun a f => ?_)
    refine l_op f rfl rfl rfl (r_move (f.eval rfl)) (fun a f => ?_)
    refine l_len Tryd.underlying31 f rfl rfl h1 (fun a f => ?_)
    refine l_op f rfl rfl rfl (r_int (f.eval rfl) (f.eval rfl) b_leq) (fun a f => ?_)
    refine l_nil ?_
    rcases cond_some hs_86 with ⟨hc_119, hs_86⟩ | ⟨hc_119, hs_86⟩
    ·refine k_true f rfl hc_119 ?_
     refine k_skip ?_
     refine k_seq ?_
     refine k_block ?_
     refine k_draw 9 Follows (by kernel_rfl) m ?_
     refine q_op (i := 0) (listed' := #[true, false, false, false, false, false, false, false, false]) 9 rfl (by kernel_rfl) rfl f rfl rfl rfl (fun _ _ _ _ _ => r_move (f.eval rfl)) (fun a f => ?_)
     refine q_boxAgg (i := 1) (listed' := #[true, true, false, false, false, false, false, false, false]) (ds := [v0_0]) 9 0 Ag29 rfl rfl rfl rfl (by kernel_rfl) rfl f rfl rfl rfl (fun a f => ?_)
     refine q_op (i := 2) (listed' := #[true, true, true, false, false, false, false, false, false]) 9 rfl (by kernel_rfl) rfl f rfl rfl rfl (fun _ _ _ _ _ => r_move (f.eval rfl)) (fun a f => ?_)
     refine q_op (i := 3) (listed' := #[true, true, true, true, false, false, false, false, false]) 9 rfl (by kernel_rfl) rfl f rfl rfl rfl (fun _ _ _ _ _ => r_move (f.eval rfl)) (fun a f => ?_)
     obtain ⟨l_120, hx_121, hs_86⟩ := bind_some hs_86
     refine q_slice (i := 4) (listed' := #[true, true, true, true, true, false, false, false, false]) 9 T31 h1 hx_121 rfl (by kernel_rfl) rfl f rfl rfl rfl (.inl ⟨rfl, rfl⟩) (.inr ⟨_, _, rfl, rfl⟩) (fun v_122 a h_123 f => ?_)
     refine q_one (i := 5) (listed' := #[true, true, true, true, true, true, false, false, false]) rfl (by kernel_rfl) rfl (fun G_124 w hl_125 m K_126 K_126 => ?_)
     have h1 := RSl.mono (RI.mono _) _ _ _ _ hl_125 h1
     have h0_0 := RSl.mono (RSl.mono (RI.mono _)) _ _ _ _ hl_125 h0_0
     have h_123 := RSl.mono (RI.mono _) _ _ _ _ hl_125 h_123
     have m : Mem W G_124 w (Itm.box b_2 29 [v0_0] :: H) := m
     obtain ⟨y_127, hy_128, hs_86⟩ := bind_some hs_86
     refine l_res f rfl rfl Tryd.call66 (Wk.spec_l12Open m h0_0 h_123 hy_128) (fun v_132 G_129 Ho_133 w hl_130 m hQ_131 a f => ?_)
     obtain ⟨v_134, rfl, rfl, h_135⟩ := hQ_131
     have h1 := RSl.mono (RI.mono _) _ _ _ _ hl_130 h1
     have h0_0 := RSl.mono (RSl.mono (RI.mono _)) _ _ _ _ hl_130 h0_0
     have h_123 := RSl.mono (RI.mono _) _ _ _ _ hl_130 h_123
     have m : Mem W G_129 w (Itm.box b_2 29 [v0_0] :: H) := m
     refine l_nil ?_
     refine K_126 G_129 [] _ _ hl_130 m ?_
     refine q_len (i := 6) (listed' := #[true, true, true, true, true, true, true, false, false]) 9 Tryd.underlying31 h_135 rfl (by kernel_rfl) rfl f rfl rfl rfl (fun a f => ?_)
     obtain ⟨y_136, hy_137, hs_86⟩ := bind_some hs_86
     refine q_call (i := 7) (listed' := #[true, true, true, true, true, true, true, true, false]) 9 rfl (by kernel_rfl) rfl f rfl rfl rfl Tryd.call65 (fun _ _ w hG_138 m => Wk.spec_l1Max m  hy_137) (fun a f => ?_)
     refine q_op (i := 8) (listed' := #[true, true, true, true, true, true, true, true, true]) 9 rfl (by kernel_rfl) rfl f rfl rfl rfl (fun _ _ _ _ _ => r_assign (f.eval rfl)) (fun a f => ?_)
     refine q_end (fun G_139 w hl_140 m => ?_)
     have h1 := RSl.mono (RI.mono _) _ _ _ _ hl_140 h1
     have h0_0 := RSl.mono (RSl.mono (RI.mono _)) _ _ _ _ hl_140 h0_0
     have h_123 := RSl.mono (RI.mono _) _ _ _ _ hl_140 h_123
     have h_135 := RSl.mono (RI.mono _) _ _ _ _ hl_140 h_135
     have m : Mem W G_139 w (Itm.box b_2 29 [v0_0] :: H) := m
     refine l_nil ?_
     refine k_region ?_
     refine l_op f rfl rfl rfl (r_move (f.eval rfl)) (fun a f => ?_)
     refine l_op f rfl rfl rfl (r_int (f.eval rfl) (f.eval rfl) b_add) (fun a f => ?_)
     refine l_op f rfl rfl rfl (r_assign (f.eval rfl)) (fun a f => ?_)
     refine l_nil ?_
     obtain rfl := Option.some.inj hs_86
     exact ⟨_, rfl, _, _, rfl, _, (GLe.trans hl_93 (GLe.trans hl_125 (GLe.trans hl_130 hl_140))), f.weak ⟨rfl, rfl, rfl, rfl, trivial⟩, m⟩
    ·refine k_false f rfl hc_119 ?_
     refine k_exit rfl ?_
     have m : Mem W G_90 w H := Mem.drop (H' := [Itm.box b_2 29 [v0_0]]) m
     obtain rfl := Option.some.inj hs_86
     obtain rfl := hq_87 _ rfl
     exact ⟨_, rfl, _, hl_93, f.weak ⟨rfl, trivial⟩, m⟩
   ·rintro a w ⟨x_117, rfl, G_116, hl_118, f, m⟩
    refine k_seq ?_
    refine k_region ?_
    refine l_op f rfl rfl rfl (r_move (f.eval rfl)) (fun a f => ?_)
    refine l_op f rfl rfl rfl (r_assign (f.eval rfl)) (fun a f => ?_)
    refine l_nil ?_
    refine k_ret ?_
    obtain rfl := Option.some.inj hd
    exact ⟨[(.int .i64 x_117)], ⟨f.get _ _ rfl, trivial⟩, f.defers, _, [], (GLe.trans hl_6 (GLe.trans hl_26 hl_118)), m, rfl, rfl⟩

end Go.Proofs.YtehnblgkgaakeaaDoor

set_option maxRecDepth 100000
namespace Go.Proofs.YtehnblgkgaakeaaDoor
open Go Go.Sx
theorem Wk.math_bits_OnesCount32 {W w : World} {G : GH} {H : List Itm} {x0 : Int} (m : Mem W G w (H))  {y : Int} (hd : D.math_bits_OnesCount32 x0 = some y) :
  Calls Tryd.prog 102 #[(.int .u32 x0)] w (Res W G H (fun _ Ho v => Ho = [] ∧ v = (.int .i64 y))) := by
 refine calls_b (args := [(.int .u32 x0)]) (N := 21) [.tmp 2] Tryd.func102 rfl rfl (Nat.le_of_ble_eq_true rfl) rfl (fun a f => ?_)
 unfold D.math_bits_OnesCount32 at hd
 refine k_seq ?_
 refine k_region ?_
 refine l_op f rfl rfl rfl (r_assign (f.eval rfl)) (fun a f => ?_)
 refine l_nil ?_
 refine k_seq ?_
 refine k_draw 19 Follows (by kernel_rfl) m ?_
 refine q_op (i := 0) (listed' := #[true, false, false, false, false, false, false, false, false, false, false, false, false, false, false, false, false, false, false]) 19 rfl (by kernel_rfl) rfl f rfl rfl rfl (fun _ _ _ _ _ => r_move (f.eval rfl)) (fun a f => ?_)
 refine q_op (i := 1) (listed' := #[true, true, false, false, false, false, false, false, false, false, false, false, false, false, false, false, false, false, false]) 19 rfl (by kernel_rfl) rfl f rfl rfl rfl (fun _ _ _ _ _ => r_shr (f.eval rfl) (f.eval rfl) (by decide)) (fun a f => ?_)
 obtain ⟨e_2, he_3, hd⟩ := bind_some hd
 refine q_op (i := 2) (listed' := #[true, true, true, false, false, false, false, false, false, false, false, false, false, false, false, false, false, false, false]) 19 rfl (by kernel_rfl) rfl f rfl rfl rfl (fun _ _ _ _ _ => r_strAt (f.eval rfl) (f.eval rfl) Tryd.underlying9 he_3) (fun a f => ?_)
 refine q_op (i := 3) (listed' := #[true, true, true, true, false, false, false, false, false, false, false, false, false, false, false, false, false, false, false]) 19 rfl (by kernel_rfl) rfl f rfl rfl rfl (fun _ _ _ _ _ => r_move (f.eval rfl)) (fun a f => ?_)
 refine q_op (i := 4) (listed' := #[true, true, true, true, true, false, false, false, false, false, false, false, false, false, false, false, false, false, false]) 19 rfl (by kernel_rfl) rfl f rfl rfl rfl (fun _ _ _ _ _ => r_shr (f.eval rfl) (f.eval rfl) (by decide)) (fun a f => ?_)
 refine q_op (i := 5) (listed' := #[true, true, true, true, true, true, false, false, false, false, false, false, false, false, false, false, false, false, false]) 19 rfl (by kernel_rfl) rfl f rfl rfl rfl (fun _ _ _ _ _ => r_int (f.eval rfl) (f.eval rfl) b_and) (fun a f => ?_)
 obtain ⟨e_5, he_6, hd⟩ := bind_some hd
 refine q_op (i := 6) (listed' := #[true, true, true, true, true, true, true, false, false, false, false, false, false, false, false, false, false, false, false]) 19 rfl (by kernel_rfl) rfl f rfl rfl rfl (fun _ _ _ _ _ => r_strAt (f.eval rfl) (f.eval rfl) Tryd.underlying9 he_6) (fun a f => ?_)
 refine q_op (i := 7) (listed' := #[true, true, true, true, true, true, true, true, false, false, false, false, false, false, false, false, false, false, false]) 19 rfl (by kernel_rfl) rfl f rfl rfl rfl (fun _ _ _ _ _ => r_int (f.eval rfl) (f.eval rfl) b_add) (fun a f => ?_)
 refine q_op (i := 8) (listed' := #[true, true, true, true, true, true, true, true, true, false, false, false, false, false, false, false, false, false, false]) 19 rfl (by kernel_rfl) rfl f rfl rfl rfl (fun _ _ _ _ _ => r_move (f.eval rfl)) (fun a f => ?_)
 refine q_op (i := 9) (listed' := #[true, true, true, true, true, true, true, true, true, true, false, false, false, false, false, false, false, false, false]) 19 rfl (by kernel_rfl) rfl f rfl rfl rfl (fun _ _ _ _ _ => r_shr (f.eval rfl) (f.eval rfl) (by decide)) (fun a f => ?_)
 refine q_op (i := 10) (listed' := #[true, true, true, true, true, true, true, true, true, true, true, false, false, false, false, false, false, false, false]) 19 rfl (by kernel_rfl) rfl f rfl rfl rfl (fun _ _ _ _ _ => r_int (f.eval rfl) (f.eval rfl) b_and) (fun a f => ?_)
 obtain ⟨e_8, he_9, hd⟩ := bind_some hd
 refine q_op (i := 11) (listed' := #[true, true, true, true, true, true, true, true, true, true, true, true, false, false, false, false, false, false, false]) 19 rfl (by kernel_rfl) rfl f rfl rfl rfl (fun _ _ _ _ _ => r_strAt (f.eval rfl) (f.eval rfl) Tryd.underlying9 he_9) (fun a f => ?_)
 refine q_op (i := 12) (listed' := #[true, true, true, true, true, true, true, true, true, true, true, true, true, false, false, false, false, false, false]) 19 rfl (by kernel_rfl) rfl f rfl rfl rfl (fun _ _ _ _ _ => r_int (f.eval rfl) (f.eval rfl) b_add) (fun a f => ?_)
 refine q_op (i := 13) (listed' := #[true, true, true, true, true, true, true, true, true, true, true, true, true, true, false, false, false, false, false]) 19 rfl (by kernel_rfl) rfl f rfl rfl rfl (fun _ _ _ _ _ => r_move (f.eval rfl)) (fun a f => ?_)
 refine q_op (i := 14) (listed' := #[true, true, true, true, true, true, true, true, true, true, true, true, true, true, true, false, false, false, false]) 19 rfl (by kernel_rfl) rfl f rfl rfl rfl (fun _ _ _ _ _ => r_int (f.eval rfl) (f.eval rfl) b_and) (fun a f => ?_)
 obtain ⟨e_10, he_11, hd⟩ := bind_some hd
 refine q_op (i := 15) (listed' := #[true, true, true, true, true, true, true, true, true, true, true, true, true, true, true, true, false, false, false]) 19 rfl (by kernel_rfl) rfl f rfl rfl rfl (fun _ _ _ _ _ => r_strAt (f.eval rfl) (f.eval rfl) Tryd.underlying9 he_11) (fun a f => ?_)
 refine q_op (i := 16) (listed' := #[true, true, true, true, true, true, true, true, true, true, true, true, true, true, true, true, true, false, false]) 19 rfl (by kernel_rfl) rfl f rfl rfl rfl (fun _ _ _ _ _ => r_int (f.eval rfl) (f.eval rfl) b_add) (fun a f => ?_)
 refine q_op (i := 17) (listed' := #[true, true, true, true, true, true, true, true, true, true, true, true, true, true, true, true, true, true, false]) 19 rfl (by kernel_rfl) rfl f rfl rfl rfl (fun _ _ _ _ _ => r_conv (f.eval rfl) ⟨_, Tryd.underlying5⟩ Tryd.underlying3) (fun a f => ?_)
 refine q_op (i := 18) (listed' := #[true, true, true, true, true, true, true, true, true, true, true, true, true, true, true, true, true, true, true]) 19 rfl (by kernel_rfl) rfl f rfl rfl rfl (fun _ _ _ _ _ => r_assign (f.eval rfl)) (fun a f => ?_)
 refine q_end (fun G_12 w hl_13 m => ?_)
 have m : Mem W G_12 w (H) := m
 refine l_nil ?_
 refine k_ret ?_
 obtain rfl := Option.some.inj hd
 exact ⟨[(.int .i64 (IntKind.i64.wrap (IntKind.u8.wrap ((IntKind.u8.wrap ((IntKind.u8.wrap (e_2 + e_5)) + e_8)) + e_10))))], ⟨f.get _ _ rfl, trivial⟩, f.defers, _, [], hl_13, m, rfl, rfl⟩

theorem Wk.impl_vset_size {W w : World} {G : GH} {H : List Itm} {x0 : Int} (m : Mem W G w (H))  {y : Int} (hd : D.impl_vset_size x0 = some y) :
  Calls Tryd.prog 50 #[(.int .u32 x0)] w (Res W G H (fun _ Ho v => Ho = [] ∧ v = (.int .i64 y))) := by
 refine calls_b (args := [(.int .u32 x0)]) (N := 5) [.tmp 2] Tryd.func50 rfl rfl (Nat.le_of_ble_eq_true rfl) rfl (fun a f => ?_)
 unfold D.impl_vset_size at hd
 refine k_seq ?_
 refine k_region ?_
 refine l_op f rfl rfl rfl (r_assign (f.eval rfl)) (fun a f => ?_)
 refine l_nil ?_
 refine k_seq ?_
 refine k_region ?_
 refine l_op f rfl rfl rfl (r_move (f.eval rfl)) (fun a f => ?_)
 obtain ⟨y_1, hy_2, hd⟩ := bind_some hd
 refine l_res f rfl rfl Tryd.call102 (Wk.math_bits_OnesCount32 m  hy_2) (fun v_6 G_3 Ho_7 w hl_4 m hQ_5 a f => ?_)
 obtain ⟨rfl, rfl⟩ := hQ_5
 have m : Mem W G_3 w (H) := m
 refine l_op f rfl rfl rfl (r_assign (f.eval rfl)) (fun a f => ?_)
 refine l_nil ?_
 refine k_ret ?_
 obtain rfl := Option.some.inj hd
 exact ⟨[(.int .i64 y_1)], ⟨f.get _ _ rfl, trivial⟩, f.defers, _, [], hl_4, m, rfl, rfl⟩

end Go.Proofs.YtehnblgkgaakeaaDoor
