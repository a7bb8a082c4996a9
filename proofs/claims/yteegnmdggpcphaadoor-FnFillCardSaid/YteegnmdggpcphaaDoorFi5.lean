/- Parts of the proof: V1W. -/
import Derived.Test.YteegnmdggpcphaaDoorFi4
import Derived.Test.YteegnmdggpcphaaDoorProg
import Derived.KernelRfl
set_option linter.unusedVariables false
set_option linter.unusedSimpArgs false
set_option linter.unusedSectionVars false
set_option maxRecDepth 100000
namespace Go.Proofs.YteegnmdggpcphaaDoor
open Go Go.Sx
theorem T45 : SlT Tryd.prog 45 5 1 1 (.int .u8 0) := ⟨Tryd.underlying45, Tryd.t5, by kernel_rfl, by kernel_rfl, by kernel_rfl, by kernel_rfl⟩
theorem Pl49 : Plain Tryd.prog 49 := Tryd.isAgg49
theorem Pl45 : Plain Tryd.prog 45 := Tryd.isAgg45

theorem Wk.laws_big {W w : World} {G : GH} {H : List Itm} {v0 : Value} {x0 : (List Int)} (m : Mem W G w (H)) (h0 : RSl (RI .u8) G v0 x0) {y : Bool} (hd : D.laws_big x0 = some y) :
  Calls Tryd.prog 30 #[v0] w (Res W G H (fun _ Ho v => Ho = [] ∧ v = (.bool y))) := by
 refine calls_b (args := [v0]) (N := 6) [.tmp 2] Tryd.func30 rfl rfl (Nat.le_of_ble_eq_true rfl) rfl (fun a f => ?_)
 unfold D.laws_big at hd
 refine k_seq ?_
 refine k_region ?_
 refine l_op f rfl rfl rfl (r_assign (f.eval rfl)) (fun a f => ?_)
 refine l_nil ?_
 refine k_seq ?_
 refine k_region ?_
 refine l_op f rfl rfl rfl (r_move (f.eval rfl)) (fun a f => ?_)
 refine l_len Tryd.underlying45 f rfl rfl h0 (fun a f => ?_)
 refine l_op f rfl rfl rfl (r_int (f.eval rfl) (f.eval rfl) b_gtr) (fun a f => ?_)
 refine l_op f rfl rfl rfl (r_assign (f.eval rfl)) (fun a f => ?_)
 refine l_nil ?_
 refine k_ret ?_
 obtain rfl := Option.some.inj hd
 exact ⟨[(.bool (decide ((4096 : Int) < (x0.length : Int))))], ⟨f.get _ _ rfl, trivial⟩, f.defers, _, [], (GLe.refl _), m, rfl, rfl⟩

theorem Wk.laws_roll {W w : World} {G : GH} {H : List Itm} {v0 : Value} {x0 : (List Int)} {x1 : Int} (m : Mem W G w (H)) (h0 : RSl (RI .u8) G v0 x0) {y : ((List Int)) × Int × Int} (hd : D.laws_roll x0 x1 = some y) :
  Calls Tryd.prog 31 #[v0, (.int .u64 x1)] w (Res W G H (fun G' Ho v => ∃ r0 : Value, ∃ c1 : Nat, Ho = [Itm.box c1 110 [r0, (.int .i64 y.2.1), (.int .u64 y.2.2)]] ∧ v = (.pointer (some ⟨c1, 0, none⟩)) ∧ RSl (RI .u8) G' r0 y.1)) := by
 refine calls_b (args := [v0, (.int .u64 x1)]) (N := 38) [.tmp 4] Tryd.func31 rfl rfl (Nat.le_of_ble_eq_true rfl) rfl (fun a f => ?_)
 unfold D.laws_roll at hd
 refine k_seq ?_
 refine k_region ?_
 refine l_op f rfl rfl rfl (r_assign (f.eval rfl)) (fun a f => ?_)
 refine l_nil ?_
 refine k_seq ?_
 refine k_region ?_
 refine l_op f rfl rfl rfl (r_move (f.eval rfl)) (fun a f => ?_)
 refine l_op f rfl rfl rfl (r_move (f.eval rfl)) (fun a f => ?_)
 refine l_op f rfl rfl rfl (r_int (f.eval rfl) (f.eval rfl) b_mul) (fun a f => ?_)
 refine l_op f rfl rfl rfl (r_move (f.eval rfl)) (fun a f => ?_)
 refine l_len Tryd.underlying45 f rfl rfl h0 (fun a f => ?_)
 refine l_op f rfl rfl rfl (r_conv (f.eval rfl) ⟨_, Tryd.underlying3⟩ Tryd.underlying49) (fun a f => ?_)
 refine l_op f rfl rfl rfl (r_int (f.eval rfl) (f.eval rfl) b_add) (fun a f => ?_)
 have hb_1 : ∀ w, (Instr.build 110 #[(0, v0), (2, (.int .u64 (IntKind.u64.wrap ((IntKind.u64.wrap (x1 * 7919)) + (IntKind.u64.wrap (x0.length : Int))))))]).run Tryd.prog w = .ok (.agg #[v0, (.int .i64 0), (.int .u64 (IntKind.u64.wrap ((IntKind.u64.wrap (x1 * 7919)) + (IntKind.u64.wrap (x0.length : Int)))))]) w := by intro w; simp [Instr.build, Instr.fill, h0.cells, cells_int, cells_bool, cells_string, cells_slice, cells_pointer, cells_agg]
 refine l_build f rfl rfl hb_1 (fun a f => ?_)
 refine l_box (cs := [v0, (.int .i64 0), (.int .u64 (IntKind.u64.wrap ((IntKind.u64.wrap (x1 * 7919)) + (IntKind.u64.wrap (x0.length : Int)))))]) m f rfl rfl rfl (fun b_3 w a m f => ?_)
 refine l_op f rfl rfl rfl (r_assign (f.eval rfl)) (fun a f => ?_)
 refine l_nil ?_
 refine k_seq ?_
 refine k_seq ?_
 refine k_region ?_
 refine l_op f rfl rfl rfl (r_assign (f.eval rfl)) (fun a f => ?_)
 refine l_nil ?_
 obtain ⟨q_25, hl_26, hd⟩ := bind_some hd
 refine k_cut (fun a w => ∃ x_45 : Int, x_45 = q_25 ∧ ∃ (G_44 : GH), GLe G G_44 ∧ Fr a 38 [(5, (.pointer (some ⟨b_3, 0, none⟩)))] ∧ Mem W G_44 w (Itm.box b_3 110 [v0, (.int .i64 0), (.int .u64 x_45)] :: H)) ?_ ?_
 ·refine k_block ?_
  refine k_loop (fun s_29 a w => ∃ x_32 : Int, ∃ x_33 : Int, (x_32, x_33) = s_29 ∧ ∃ (G_31 : GH), GLe G G_31 ∧ Fr a 38 [(0, v0), (5, (.pointer (some ⟨b_3, 0, none⟩))), (6, (.int .i64 x_32))] ∧ Mem W G_31 w (Itm.box b_3 110 [v0, (.int .i64 0), (.int .u64 x_33)] :: H)) hl_26 ⟨_, _, rfl, _, (GLe.refl _), f.weak ⟨rfl, rfl, rfl, trivial⟩, m⟩ ?_
  clear hl_26 f m
  rintro s_29 o_30 hs_27 hq_28 a w ⟨x_32, x_33, rfl, G_31, hl_34, f, m⟩
  have h0 := RSl.mono (RI.mono _) _ _ _ _ hl_34 h0
  refine k_seq ?_
  refine k_seq ?_
  refine k_region ?_
  refine l_op f rfl rfl rfl (r_move (f.eval rfl)) (fun a f => ?_)
  refine l_op f rfl rfl rfl (r_move (f.eval rfl)) (fun a f => ?_)
  refine l_len Tryd.underlying45 f rfl rfl h0 (fun a f => ?_)
  refine l_op f rfl rfl rfl (r_int (f.eval rfl) (f.eval rfl) b_lss) (fun a f => ?_)
  refine l_nil ?_
  rcases cond_some hs_27 with ⟨hc_47, hs_27⟩ | ⟨hc_47, hs_27⟩
  ·refine k_true f rfl hc_47 ?_
   refine k_skip ?_
   refine k_seq ?_
   refine k_block ?_
   refine k_draw 15 Follows (by kernel_rfl) m ?_
   refine q_op (i := 0) (listed' := #[true, false, false, false, false, false, false, false, false, false, false, false, false, false, false, false]) 15 rfl (by kernel_rfl) rfl f rfl rfl rfl (fun _ _ _ _ _ => r_move (f.eval rfl)) (fun a f => ?_)
   refine q_op (i := 1) (listed' := #[true, true, false, false, false, false, false, false, false, false, false, false, false, false, false, false]) 15 rfl (by kernel_rfl) rfl f rfl rfl rfl (fun _ _ _ _ _ => r_move (f.eval rfl)) (fun a f => ?_)
   refine q_op (i := 2) (listed' := #[true, true, true, false, false, false, false, false, false, false, false, false, false, false, false, false]) 15 rfl (by kernel_rfl) rfl f rfl rfl rfl (fun _ _ _ _ _ => r_nilCheck (f.eval rfl)) (fun a f => ?_)
   refine q_fieldAddr (i := 3) (listed' := #[true, true, true, true, false, false, false, false, false, false, false, false, false, false, false, false]) 15 Tryd.underlying110 rfl Tryd.sizeOf49 (by decide) rfl (by kernel_rfl) rfl f rfl rfl rfl (fun a f => ?_)
   refine q_boxCell (i := 4) (listed' := #[true, true, true, true, true, false, false, false, false, false, false, false, false, false, false, false]) 15 0 Pl49 rfl rfl rfl (by kernel_rfl) rfl f rfl rfl rfl (fun a f => ?_)
   refine q_op (i := 5) (listed' := #[true, true, true, true, true, true, false, false, false, false, false, false, false, false, false, false]) 15 rfl (by kernel_rfl) rfl f rfl rfl rfl (fun _ _ _ _ _ => r_int (f.eval rfl) (f.eval rfl) b_mul) (fun a f => ?_)
   refine q_op (i := 6) (listed' := #[true, true, true, true, true, true, true, false, false, false, false, false, false, false, false, false]) 15 rfl (by kernel_rfl) rfl f rfl rfl rfl (fun _ _ _ _ _ => r_move (f.eval rfl)) (fun a f => ?_)
   refine q_op (i := 7) (listed' := #[true, true, true, true, true, true, true, true, false, false, false, false, false, false, false, false]) 15 rfl (by kernel_rfl) rfl f rfl rfl rfl (fun _ _ _ _ _ => r_move (f.eval rfl)) (fun a f => ?_)
   obtain ⟨e_48, he_49, hs_27⟩ := bind_some hs_27
   refine q_at (i := 8) (listed' := #[true, true, true, true, true, true, true, true, true, false, false, false, false, false, false, false]) 15 T45 h0 he_49 rfl (by kernel_rfl) rfl f rfl rfl rfl rfl (fun p_50 c_51 a g_52 h_53 f => ?_)
   subst h_53
   refine q_loadAt (i := 9) (listed' := #[true, true, true, true, true, true, true, true, true, true, false, false, false, false, false, false]) 15 Pl5 g_52 rfl (by kernel_rfl) rfl f rfl rfl rfl (fun a f => ?_)
   refine q_op (i := 10) (listed' := #[true, true, true, true, true, true, true, true, true, true, true, false, false, false, false, false]) 15 rfl (by kernel_rfl) rfl f rfl rfl rfl (fun _ _ _ _ _ => r_conv (f.eval rfl) ⟨_, Tryd.underlying5⟩ Tryd.underlying49) (fun a f => ?_)
   refine q_op (i := 11) (listed' := #[true, true, true, true, true, true, true, true, true, true, true, true, false, false, false, false]) 15 rfl (by kernel_rfl) rfl f rfl rfl rfl (fun _ _ _ _ _ => r_int (f.eval rfl) (f.eval rfl) b_add) (fun a f => ?_)
   refine q_op (i := 12) (listed' := #[true, true, true, true, true, true, true, true, true, true, true, true, true, false, false, false]) 15 rfl (by kernel_rfl) rfl f rfl rfl rfl (fun _ _ _ _ _ => r_int (f.eval rfl) (f.eval rfl) b_add) (fun a f => ?_)
   refine q_op (i := 13) (listed' := #[true, true, true, true, true, true, true, true, true, true, true, true, true, true, false, false]) 15 rfl (by kernel_rfl) rfl f rfl rfl rfl (fun _ _ _ _ _ => r_nilCheck (f.eval rfl)) (fun a f => ?_)
   refine q_fieldAddr (i := 14) (listed' := #[true, true, true, true, true, true, true, true, true, true, true, true, true, true, true, false]) 15 Tryd.underlying110 rfl Tryd.sizeOf49 (by decide) rfl (by kernel_rfl) rfl f rfl rfl rfl (fun a f => ?_)
   refine q_end (fun G_54 w hl_55 m => ?_)
   have h0 := RSl.mono (RI.mono _) _ _ _ _ hl_55 h0
   have g_52 := At.mono hl_55 g_52
   have m : Mem W G_54 w (Itm.box b_3 110 [v0, (.int .i64 0), (.int .u64 x_33)] :: H) := m
   refine l_boxStore 0 2 (ds := [(.int .u64 (IntKind.u64.wrap ((IntKind.u64.wrap ((IntKind.u64.wrap (x_33 * 1099511628211)) + (IntKind.u64.wrap e_48))) + 3)))]) m Tryd.sizeOf49 f rfl rfl rfl (ones_cons rfl ones_nil) rfl (Nat.le_of_ble_eq_true rfl) rfl (fun w m => ?_)
   have m : Mem W G_54 w (Itm.box b_3 110 [v0, (.int .i64 0), (.int .u64 (IntKind.u64.wrap ((IntKind.u64.wrap ((IntKind.u64.wrap (x_33 * 1099511628211)) + (IntKind.u64.wrap e_48))) + 3)))] :: H) := m
   refine l_nil ?_
   refine k_region ?_
   refine l_op f rfl rfl rfl (r_move (f.eval rfl)) (fun a f => ?_)
   refine l_op f rfl rfl rfl (r_int (f.eval rfl) (f.eval rfl) b_add) (fun a f => ?_)
   refine l_op f rfl rfl rfl (r_assign (f.eval rfl)) (fun a f => ?_)
   refine l_nil ?_
   obtain rfl := Option.some.inj hs_27
   exact ⟨_, rfl, _, _, rfl, _, (GLe.trans hl_34 hl_55), f.weak ⟨rfl, rfl, rfl, trivial⟩, m⟩
  ·refine k_false f rfl hc_47 ?_
   refine k_exit rfl ?_
   obtain rfl := Option.some.inj hs_27
   obtain rfl := hq_28 _ rfl
   exact ⟨_, rfl, _, hl_34, f.weak ⟨rfl, trivial⟩, m⟩
 ·rintro a w ⟨x_45, rfl, G_44, hl_46, f, m⟩
  have h0 := RSl.mono (RI.mono _) _ _ _ _ hl_46 h0
  refine k_seq ?_
  refine k_region ?_
  refine l_op f rfl rfl rfl (r_move (f.eval rfl)) (fun a f => ?_)
  refine l_op f rfl rfl rfl (r_assign (f.eval rfl)) (fun a f => ?_)
  refine l_nil ?_
  refine k_ret ?_
  obtain rfl := Option.some.inj hd
  exact ⟨[(.pointer (some ⟨b_3, 0, none⟩))], ⟨f.get _ _ rfl, trivial⟩, f.defers, _, [Itm.box b_3 110 [v0, (.int .i64 0), (.int .u64 x_45)]], hl_46, m, _, _, rfl, rfl, h0⟩

theorem Wk.laws_dice_below {W w : World} {G : GH} {H : List Itm} {v0_0 : Value} {b0 : Nat} {x0_0 : (List Int)} {x0_1 : Int} {x0_2 : Int} {x1 : Int} (m : Mem W G w (Itm.box b0 110 [v0_0, (.int .i64 x0_1), (.int .u64 x0_2)] :: H)) (h0_0 : RSl (RI .u8) G v0_0 x0_0) {y : Int × ((List Int)) × Int × Int} (hd : D.laws_dice_below x0_0 x0_1 x0_2 x1 = some y) :
  Calls Tryd.prog 60 #[(.pointer (some ⟨b0, 0, none⟩)), (.int .i64 x1)] w (Res W G H (fun G' Ho v => ∃ r0 : Value, Ho = [Itm.box b0 110 [r0, (.int .i64 y.2.2.1), (.int .u64 y.2.2.2)]] ∧ v = (.int .i64 y.1) ∧ RSl (RI .u8) G' r0 y.2.1)) := by
 refine calls_b (args := [(.pointer (some ⟨b0, 0, none⟩)), (.int .i64 x1)]) (N := 56) [.tmp 4] Tryd.func60 rfl rfl (Nat.le_of_ble_eq_true rfl) rfl (fun a f => ?_)
 unfold D.laws_dice_below at hd
 refine k_seq ?_
 refine k_region ?_
 refine l_op f rfl rfl rfl (r_assign (f.eval rfl)) (fun a f => ?_)
 refine l_nil ?_
 refine k_seq ?_
 refine k_region ?_
 refine l_op f rfl rfl rfl (r_move (f.eval rfl)) (fun a f => ?_)
 refine l_op f rfl rfl rfl (r_move (f.eval rfl)) (fun a f => ?_)
 refine l_op f rfl rfl rfl (r_nilCheck (f.eval rfl)) (fun a f => ?_)
 refine l_fieldAddr Tryd.underlying110 rfl Tryd.sizeOf49 (by decide) f rfl rfl (fun a f => ?_)
 refine l_boxCell 0 2 m Pl49 f rfl rfl rfl rfl (fun a f => ?_)
 refine l_op f rfl rfl rfl (r_int (f.eval rfl) (f.eval rfl) b_mul) (fun a f => ?_)
 refine l_op f rfl rfl rfl (r_int (f.eval rfl) (f.eval rfl) b_add) (fun a f => ?_)
 refine l_op f rfl rfl rfl (r_nilCheck (f.eval rfl)) (fun a f => ?_)
 refine l_fieldAddr Tryd.underlying110 rfl Tryd.sizeOf49 (by decide) f rfl rfl (fun a f => ?_)
 refine l_boxStore 0 2 (ds := [(.int .u64 (IntKind.u64.wrap ((IntKind.u64.wrap (x0_2 * 6364136223846793005)) + 1442695040888963407)))]) m Tryd.sizeOf49 f rfl rfl rfl (ones_cons rfl ones_nil) rfl (Nat.le_of_ble_eq_true rfl) rfl (fun w m => ?_)
 have m : Mem W G w (Itm.box b0 110 [v0_0, (.int .i64 x0_1), (.int .u64 (IntKind.u64.wrap ((IntKind.u64.wrap (x0_2 * 6364136223846793005)) + 1442695040888963407)))] :: H) := m
 refine l_nil ?_
 refine k_seq ?_
 refine k_region ?_
 refine l_op f rfl rfl rfl (r_move (f.eval rfl)) (fun a f => ?_)
 refine l_op f rfl rfl rfl (r_nilCheck (f.eval rfl)) (fun a f => ?_)
 refine l_fieldAddr Tryd.underlying110 rfl Tryd.sizeOf49 (by decide) f rfl rfl (fun a f => ?_)
 refine l_boxCell 0 2 m Pl49 f rfl rfl rfl rfl (fun a f => ?_)
 refine l_op f rfl rfl rfl (r_shr (f.eval rfl) (f.eval rfl) (by decide)) (fun a f => ?_)
 refine l_op f rfl rfl rfl (r_int (f.eval rfl) (f.eval rfl) b_and) (fun a f => ?_)
 refine l_op f rfl rfl rfl (r_conv (f.eval rfl) ⟨_, Tryd.underlying49⟩ Tryd.underlying2) (fun a f => ?_)
 refine l_op f rfl rfl rfl (r_assign (f.eval rfl)) (fun a f => ?_)
 refine l_nil ?_
 refine k_seq ?_
 refine k_seq ?_
 refine k_draw 10 Follows (by kernel_rfl) m ?_
 refine q_op (i := 0) (listed' := #[true, false, false, false, false, false, false, false, false, false]) 10 rfl (by kernel_rfl) rfl f rfl rfl rfl (fun _ _ _ _ _ => r_move (f.eval rfl)) (fun a f => ?_)
 refine q_op (i := 1) (listed' := #[true, true, false, false, false, false, false, false, false, false]) 10 rfl (by kernel_rfl) rfl f rfl rfl rfl (fun _ _ _ _ _ => r_nilCheck (f.eval rfl)) (fun a f => ?_)
 refine q_fieldAddr (i := 2) (listed' := #[true, true, true, false, false, false, false, false, false, false]) 10 Tryd.underlying110 rfl Tryd.sizeOf3 (by decide) rfl (by kernel_rfl) rfl f rfl rfl rfl (fun a f => ?_)
 refine q_boxCell (i := 3) (listed' := #[true, true, true, true, false, false, false, false, false, false]) 10 0 Pl3 rfl rfl rfl (by kernel_rfl) rfl f rfl rfl rfl (fun a f => ?_)
 refine q_op (i := 4) (listed' := #[true, true, true, true, true, false, false, false, false, false]) 10 rfl (by kernel_rfl) rfl f rfl rfl rfl (fun _ _ _ _ _ => r_move (f.eval rfl)) (fun a f => ?_)
 refine q_op (i := 5) (listed' := #[true, true, true, true, true, true, false, false, false, false]) 10 rfl (by kernel_rfl) rfl f rfl rfl rfl (fun _ _ _ _ _ => r_nilCheck (f.eval rfl)) (fun a f => ?_)
 refine q_fieldAddr (i := 6) (listed' := #[true, true, true, true, true, true, true, false, false, false]) 10 Tryd.underlying110 rfl Tryd.sizeOf45 (by decide) rfl (by kernel_rfl) rfl f rfl rfl rfl (fun a f => ?_)
 refine q_boxCell (i := 7) (listed' := #[true, true, true, true, true, true, true, true, false, false]) 10 0 Pl45 rfl rfl rfl (by kernel_rfl) rfl f rfl rfl rfl (fun a f => ?_)
 refine q_len (i := 8) (listed' := #[true, true, true, true, true, true, true, true, true, false]) 10 Tryd.underlying45 h0_0 rfl (by kernel_rfl) rfl f rfl rfl rfl (fun a f => ?_)
 refine q_op (i := 9) (listed' := #[true, true, true, true, true, true, true, true, true, true]) 10 rfl (by kernel_rfl) rfl f rfl rfl rfl (fun _ _ _ _ _ => r_int (f.eval rfl) (f.eval rfl) b_lss) (fun a f => ?_)
 refine q_end (fun G_2 w hl_3 m => ?_)
 have h0_0 := RSl.mono (RI.mono _) _ _ _ _ hl_3 h0_0
 have m : Mem W G_2 w (Itm.box b0 110 [v0_0, (.int .i64 x0_1), (.int .u64 (IntKind.u64.wrap ((IntKind.u64.wrap (x0_2 * 6364136223846793005)) + 1442695040888963407)))] :: H) := m
 refine l_nil ?_
 rcases cond_some hd with ⟨hc_4, hd⟩ | ⟨hc_4, hd⟩
 ·refine k_true f rfl hc_4 ?_
  refine k_seq ?_
  refine k_draw 14 Follows (by kernel_rfl) m ?_
  refine q_op (i := 0) (listed' := #[true, false, false, false, false, false, false, false, false, false, false, false, false, false]) 14 rfl (by kernel_rfl) rfl f rfl rfl rfl (fun _ _ _ _ _ => r_move (f.eval rfl)) (fun a f => ?_)
  refine q_op (i := 1) (listed' := #[true, true, false, false, false, false, false, false, false, false, false, false, false, false]) 14 rfl (by kernel_rfl) rfl f rfl rfl rfl (fun _ _ _ _ _ => r_move (f.eval rfl)) (fun a f => ?_)
  refine q_op (i := 2) (listed' := #[true, true, true, false, false, false, false, false, false, false, false, false, false, false]) 14 rfl (by kernel_rfl) rfl f rfl rfl rfl (fun _ _ _ _ _ => r_nilCheck (f.eval rfl)) (fun a f => ?_)
  refine q_fieldAddr (i := 3) (listed' := #[true, true, true, true, false, false, false, false, false, false, false, false, false, false]) 14 Tryd.underlying110 rfl Tryd.sizeOf45 (by decide) rfl (by kernel_rfl) rfl f rfl rfl rfl (fun a f => ?_)
  refine q_boxCell (i := 4) (listed' := #[true, true, true, true, true, false, false, false, false, false, false, false, false, false]) 14 0 Pl45 rfl rfl rfl (by kernel_rfl) rfl f rfl rfl rfl (fun a f => ?_)
  refine q_op (i := 5) (listed' := #[true, true, true, true, true, true, false, false, false, false, false, false, false, false]) 14 rfl (by kernel_rfl) rfl f rfl rfl rfl (fun _ _ _ _ _ => r_move (f.eval rfl)) (fun a f => ?_)
  refine q_op (i := 6) (listed' := #[true, true, true, true, true, true, true, false, false, false, false, false, false, false]) 14 rfl (by kernel_rfl) rfl f rfl rfl rfl (fun _ _ _ _ _ => r_nilCheck (f.eval rfl)) (fun a f => ?_)
  refine q_fieldAddr (i := 7) (listed' := #[true, true, true, true, true, true, true, true, false, false, false, false, false, false]) 14 Tryd.underlying110 rfl Tryd.sizeOf3 (by decide) rfl (by kernel_rfl) rfl f rfl rfl rfl (fun a f => ?_)
  refine q_boxCell (i := 8) (listed' := #[true, true, true, true, true, true, true, true, true, false, false, false, false, false]) 14 0 Pl3 rfl rfl rfl (by kernel_rfl) rfl f rfl rfl rfl (fun a f => ?_)
  obtain ⟨e_5, he_6, hd⟩ := bind_some hd
  refine q_at (i := 9) (listed' := #[true, true, true, true, true, true, true, true, true, true, false, false, false, false]) 14 T45 h0_0 he_6 rfl (by kernel_rfl) rfl f rfl rfl rfl rfl (fun p_7 c_8 a g_9 h_10 f => ?_)
  subst h_10
  refine q_loadAt (i := 10) (listed' := #[true, true, true, true, true, true, true, true, true, true, true, false, false, false]) 14 Pl5 g_9 rfl (by kernel_rfl) rfl f rfl rfl rfl (fun a f => ?_)
  refine q_op (i := 11) (listed' := #[true, true, true, true, true, true, true, true, true, true, true, true, false, false]) 14 rfl (by kernel_rfl) rfl f rfl rfl rfl (fun _ _ _ _ _ => r_conv (f.eval rfl) ⟨_, Tryd.underlying5⟩ Tryd.underlying2) (fun a f => ?_)
  refine q_op (i := 12) (listed' := #[true, true, true, true, true, true, true, true, true, true, true, true, true, false]) 14 rfl (by kernel_rfl) rfl f rfl rfl rfl (fun _ _ _ _ _ => r_int (f.eval rfl) (f.eval rfl) b_add) (fun a f => ?_)
  refine q_op (i := 13) (listed' := #[true, true, true, true, true, true, true, true, true, true, true, true, true, true]) 14 rfl (by kernel_rfl) rfl f rfl rfl rfl (fun _ _ _ _ _ => r_assign (f.eval rfl)) (fun a f => ?_)
  refine q_end (fun G_11 w hl_12 m => ?_)
  have h0_0 := RSl.mono (RI.mono _) _ _ _ _ hl_12 h0_0
  have g_9 := At.mono hl_12 g_9
  have m : Mem W G_11 w (Itm.box b0 110 [v0_0, (.int .i64 x0_1), (.int .u64 (IntKind.u64.wrap ((IntKind.u64.wrap (x0_2 * 6364136223846793005)) + 1442695040888963407)))] :: H) := m
  refine l_nil ?_
  refine k_region ?_
  refine l_op f rfl rfl rfl (r_move (f.eval rfl)) (fun a f => ?_)
  refine l_op f rfl rfl rfl (r_move (f.eval rfl)) (fun a f => ?_)
  refine l_op f rfl rfl rfl (r_nilCheck (f.eval rfl)) (fun a f => ?_)
  refine l_fieldAddr Tryd.underlying110 rfl Tryd.sizeOf3 (by decide) f rfl rfl (fun a f => ?_)
  refine l_boxCell 0 1 m Pl3 f rfl rfl rfl rfl (fun a f => ?_)
  refine l_op f rfl rfl rfl (r_int (f.eval rfl) (f.eval rfl) b_add) (fun a f => ?_)
  refine l_op f rfl rfl rfl (r_nilCheck (f.eval rfl)) (fun a f => ?_)
  refine l_fieldAddr Tryd.underlying110 rfl Tryd.sizeOf3 (by decide) f rfl rfl (fun a f => ?_)
  refine l_boxStore 0 1 (ds := [(.int .i64 (IntKind.i64.wrap (x0_1 + 1)))]) m Tryd.sizeOf3 f rfl rfl rfl (ones_cons rfl ones_nil) rfl (Nat.le_of_ble_eq_true rfl) rfl (fun w m => ?_)
  have m : Mem W G_11 w (Itm.box b0 110 [v0_0, (.int .i64 (IntKind.i64.wrap (x0_1 + 1))), (.int .u64 (IntKind.u64.wrap ((IntKind.u64.wrap (x0_2 * 6364136223846793005)) + 1442695040888963407)))] :: H) := m
  refine l_nil ?_
  refine k_seq ?_
  refine k_region ?_
  refine l_op f rfl rfl rfl (r_move (f.eval rfl)) (fun a f => ?_)
  refine l_op f rfl rfl rfl (r_move (f.eval rfl)) (fun a f => ?_)
  obtain ⟨hn_13, hd⟩ := cond_none hd
  refine l_op f rfl rfl rfl (r_int (f.eval rfl) (f.eval rfl) (b_rem hn_13)) (fun a f => ?_)
  refine l_op f rfl rfl rfl (r_assign (f.eval rfl)) (fun a f => ?_)
  refine l_nil ?_
  refine k_ret ?_
  obtain rfl := Option.some.inj hd
  exact ⟨[(.int .i64 (Int.tmod (IntKind.i64.wrap ((IntKind.i64.wrap (iand .u64 (ishr .u64 (IntKind.u64.wrap ((IntKind.u64.wrap (x0_2 * 6364136223846793005)) + 1442695040888963407)) 33) 16777215)) + (IntKind.i64.wrap e_5))) x1))], ⟨f.get _ _ rfl, trivial⟩, f.defers, _, [Itm.box b0 110 [v0_0, (.int .i64 (IntKind.i64.wrap (x0_1 + 1))), (.int .u64 (IntKind.u64.wrap ((IntKind.u64.wrap (x0_2 * 6364136223846793005)) + 1442695040888963407)))]], (GLe.trans hl_3 hl_12), m, _, rfl, rfl, h0_0⟩
 ·refine k_false f rfl hc_4 ?_
  refine k_skip ?_
  refine k_seq ?_
  refine k_region ?_
  refine l_op f rfl rfl rfl (r_move (f.eval rfl)) (fun a f => ?_)
  refine l_op f rfl rfl rfl (r_move (f.eval rfl)) (fun a f => ?_)
  obtain ⟨hn_14, hd⟩ := cond_none hd
  refine l_op f rfl rfl rfl (r_int (f.eval rfl) (f.eval rfl) (b_rem hn_14)) (fun a f => ?_)
  refine l_op f rfl rfl rfl (r_assign (f.eval rfl)) (fun a f => ?_)
  refine l_nil ?_
  refine k_ret ?_
  obtain rfl := Option.some.inj hd
  exact ⟨[(.int .i64 (Int.tmod (IntKind.i64.wrap (iand .u64 (ishr .u64 (IntKind.u64.wrap ((IntKind.u64.wrap (x0_2 * 6364136223846793005)) + 1442695040888963407)) 33) 16777215)) x1))], ⟨f.get _ _ rfl, trivial⟩, f.defers, _, [Itm.box b0 110 [v0_0, (.int .i64 x0_1), (.int .u64 (IntKind.u64.wrap ((IntKind.u64.wrap (x0_2 * 6364136223846793005)) + 1442695040888963407)))]], hl_3, m, _, rfl, rfl, h0_0⟩

theorem Wk.spec_l1Empty {W w : World} {G : GH} {H : List Itm} {x0 : Int} (m : Mem W G w (H))  {y : ((List (List Int)))} (hd : D.spec_l1Empty x0 = some y) :
  Calls Tryd.prog 196 #[(.int .i64 x0)] w (Res W G H (fun G' Ho v => ∃ r0 : Value, ∃ i0 : Itm, Ho = [i0] ∧ v = (.agg #[r0]) ∧ Ow (RSl (RI .i64)) 25 G' i0 r0 y)) := by
 refine calls_b (args := [(.int .i64 x0)]) (N := 18) [.cell 2 31] Tryd.func196 rfl rfl (Nat.le_of_ble_eq_true rfl) rfl (fun a f => ?_)
 unfold D.spec_l1Empty at hd
 refine k_seq ?_
 refine k_region ?_
 refine l_alloc (cs := [(.slice none 0 0)]) Tryd.zeroValue31 m f rfl rfl (fun b_2 w a m f => ?_)
 refine l_nil ?_
 refine k_seq ?_
 refine k_region ?_
 have hb_3 : ∀ w, (Instr.build 31 #[]).run Tryd.prog w = .ok (.agg #[(.slice none 0 0)]) w := by intro w; simp [Instr.build, Instr.fill, cells_int, cells_bool, cells_string, cells_slice, cells_pointer, cells_agg]
 refine l_build f rfl rfl hb_3 (fun a f => ?_)
 refine l_alloc (cs := [(.slice none 0 0)]) Tryd.zeroValue31 m f rfl rfl (fun b_5 w a m f => ?_)
 refine l_boxStore 0 0 (ds := [(.slice none 0 0)]) m Tryd.sizeOf31 f rfl rfl rfl (ones_cons rfl ones_nil) rfl (Nat.le_of_ble_eq_true rfl) rfl (fun w m => ?_)
 have m : Mem W G w (Itm.box b_5 31 [(.slice none 0 0)] :: Itm.box b_2 31 [(.slice none 0 0)] :: H) := m
 refine l_nil ?_
 refine k_seq ?_
 refine k_seq ?_
 refine k_region ?_
 refine l_op f rfl rfl rfl (r_assign (f.eval rfl)) (fun a f => ?_)
 refine l_nil ?_
 obtain ⟨it_58, m, o_59⟩ := Ow.nil (RSl (RI .i64)) 25 m
 obtain ⟨q_52, hl_53, hd⟩ := bind_some hd
 refine k_cut (fun a w => ∃ l_88 : List (List Int), l_88 = q_52 ∧ ∃ (G_87 : GH) (v_89 : Value) (it_90 : Itm), GLe G G_87 ∧ Fr a 18 [(2, (.pointer (some ⟨b_2, 0, none⟩))), (3, (.pointer (some ⟨b_5, 0, none⟩)))] ∧ Mem W G_87 w (Itm.box b_2 31 [(.slice none 0 0)] :: Itm.box b_5 31 [v_89] :: it_90 :: H) ∧ Ow (RSl (RI .i64)) 25 G_87 it_90 v_89 l_88) ?_ ?_
 ·refine k_block ?_
  have m : Mem W G w (Itm.box b_5 31 [(.slice none 0 0)] :: it_58 :: Itm.box b_2 31 [(.slice none 0 0)] :: H) := m.front 1 rfl
  have m : Mem W G w (Itm.box b_2 31 [(.slice none 0 0)] :: Itm.box b_5 31 [(.slice none 0 0)] :: it_58 :: H) := m.front 2 rfl
  refine k_loop (fun s_56 a w => ∃ x_62 : Int, ∃ l_63 : List (List Int), (x_62, l_63) = s_56 ∧ ∃ (G_61 : GH) (v_64 : Value) (it_65 : Itm), GLe G G_61 ∧ Fr a 18 [(0, (.int .i64 x0)), (2, (.pointer (some ⟨b_2, 0, none⟩))), (3, (.pointer (some ⟨b_5, 0, none⟩))), (4, (.int .i64 x_62))] ∧ Mem W G_61 w (Itm.box b_2 31 [(.slice none 0 0)] :: Itm.box b_5 31 [v_64] :: it_65 :: H) ∧ Ow (RSl (RI .i64)) 25 G_61 it_65 v_64 l_63) hl_53 ⟨_, _, rfl, _, (.slice none 0 0), it_58, (GLe.refl _), f.weak ⟨rfl, rfl, rfl, rfl, trivial⟩, m, o_59⟩ ?_
  clear hl_53 f m
  rintro s_56 o_57 hs_54 hq_55 a w ⟨x_62, l_63, rfl, G_61, v_64, it_65, hl_68, f, m, o_66⟩
  refine k_seq ?_
  refine k_seq ?_
  refine k_region ?_
  refine l_op f rfl rfl rfl (r_move (f.eval rfl)) (fun a f => ?_)
  refine l_op f rfl rfl rfl (r_move (f.eval rfl)) (fun a f => ?_)
  refine l_op f rfl rfl rfl (r_int (f.eval rfl) (f.eval rfl) b_lss) (fun a f => ?_)
  refine l_nil ?_
  rcases cond_some hs_54 with ⟨hc_94, hs_54⟩ | ⟨hc_94, hs_54⟩
  ·refine k_true f rfl hc_94 ?_
   refine k_skip ?_
   refine k_seq ?_
   refine k_block ?_
   refine k_region ?_
   refine l_fieldAddr Tryd.underlying31 rfl Tryd.sizeOf22 (by decide) f rfl rfl (fun a f => ?_)
   refine l_boxCell 1 0 m Pl22 f rfl rfl rfl rfl (fun a f => ?_)
   refine l_slit (R := (RI .i64)) (xs := ([] : List Int)) (RI.one _) m T25 f rfl rfl rfl (by decide) (All2.nil _) (fun it_95 v_96 w a m o_97 f => ?_)
   obtain ⟨G_99, hl_100, m, h_101⟩ := Ow.stamp (RI.mono _) o_97 m
   have o_66 := Ow.mono (RSl.mono (RI.mono _)) hl_100 o_66
   have m : Mem W G_99 w (Itm.box b_2 31 [(.slice none 0 0)] :: Itm.box b_5 31 [v_64] :: it_65 :: H) := m
   refine l_slit (R := (RSl (RI .i64))) (xs := ([([] : List Int)] : List (List Int))) (RSl.one _) m T22 f rfl rfl rfl (by decide) (All2.cons h_101 (All2.nil _)) (fun it_102 v_103 w a m o_104 f => ?_)
   obtain ⟨l_106, hx_107, hs_54⟩ := bind_some hs_54
   refine l_append (RSl.one _) 3 m o_66 rfl T22 rfl (by decide) f rfl rfl rfl (Ow.src (j := 0) o_104 m rfl) hx_107 (fun it_108 v_109 w a m o_110 f => ?_)
   have m : Mem W G_99 w (it_102 :: Itm.box b_2 31 [(.slice none 0 0)] :: Itm.box b_5 31 [v_64] :: it_108 :: H) := m
   refine l_fieldAddr Tryd.underlying31 rfl Tryd.sizeOf22 (by decide) f rfl rfl (fun a f => ?_)
   refine l_boxStore 2 0 (ds := [v_109]) m Tryd.sizeOf22 f rfl rfl (Ow.cells 3 m o_110 rfl) (ones_cons (Ow.one1 3 m o_110 rfl) ones_nil) rfl (Nat.le_of_ble_eq_true rfl) rfl (fun w m => ?_)
   have m : Mem W G_99 w (it_102 :: Itm.box b_2 31 [(.slice none 0 0)] :: Itm.box b_5 31 [v_109] :: it_108 :: H) := m
   refine l_nil ?_
   refine k_region ?_
   refine l_op f rfl rfl rfl (r_move (f.eval rfl)) (fun a f => ?_)
   refine l_op f rfl rfl rfl (r_int (f.eval rfl) (f.eval rfl) b_add) (fun a f => ?_)
   refine l_op f rfl rfl rfl (r_assign (f.eval rfl)) (fun a f => ?_)
   refine l_nil ?_
   have m : Mem W G_99 w (it_108 :: it_102 :: Itm.box b_2 31 [(.slice none 0 0)] :: Itm.box b_5 31 [v_109] :: H) := m.front 3 rfl
   have m : Mem W G_99 w (Itm.box b_5 31 [v_109] :: it_108 :: it_102 :: Itm.box b_2 31 [(.slice none 0 0)] :: H) := m.front 3 rfl
   have m : Mem W G_99 w (Itm.box b_2 31 [(.slice none 0 0)] :: Itm.box b_5 31 [v_109] :: it_108 :: it_102 :: H) := m.front 3 rfl
   have m : Mem W G_99 w (Itm.box b_2 31 [(.slice none 0 0)] :: Itm.box b_5 31 [v_109] :: it_108 :: H) := m.eraseAt 3
   obtain rfl := Option.some.inj hs_54
   exact ⟨_, rfl, _, _, rfl, _, v_109, it_108, (GLe.trans hl_68 hl_100), f.weak ⟨rfl, rfl, rfl, rfl, trivial⟩, m, o_110⟩
  ·refine k_false f rfl hc_94 ?_
   refine k_exit rfl ?_
   have m : Mem W G_61 w (it_65 :: Itm.box b_2 31 [(.slice none 0 0)] :: Itm.box b_5 31 [v_64] :: H) := m.front 2 rfl
   have m : Mem W G_61 w (Itm.box b_5 31 [v_64] :: it_65 :: Itm.box b_2 31 [(.slice none 0 0)] :: H) := m.front 2 rfl
   have m : Mem W G_61 w (Itm.box b_2 31 [(.slice none 0 0)] :: Itm.box b_5 31 [v_64] :: it_65 :: H) := m.front 2 rfl
   obtain rfl := Option.some.inj hs_54
   obtain rfl := hq_55 _ rfl
   exact ⟨_, rfl, _, v_64, it_65, hl_68, f.weak ⟨rfl, rfl, trivial⟩, m, o_66⟩
 ·rintro a w ⟨l_88, rfl, G_87, v_89, it_90, hl_93, f, m, o_91⟩
  refine k_seq ?_
  refine k_region ?_
  refine l_boxAgg 1 0 (ds := [v_89]) m Ag31 f rfl rfl rfl rfl rfl (fun a f => ?_)
  refine l_boxStore 0 0 (ds := [v_89]) m Tryd.sizeOf31 f rfl rfl rfl (ones_cons (Ow.one1 2 m o_91 rfl) ones_nil) rfl (Nat.le_of_ble_eq_true rfl) rfl (fun w m => ?_)
  have m : Mem W G_87 w (Itm.box b_2 31 [v_89] :: Itm.box b_5 31 [v_89] :: it_90 :: H) := m
  refine l_nil ?_
  refine k_ret ?_
  have rc_112 := rr_agg (P := Tryd.prog) 0 m Ag31 f (s := 2) rfl rfl rfl
  have m : Mem W G_87 w (it_90 :: Itm.box b_2 31 [v_89] :: Itm.box b_5 31 [v_89] :: H) := m.front 2 rfl
  have m : Mem W G_87 w (it_90 :: Itm.box b_2 31 [v_89] :: H) := m.eraseAt 2
  have m : Mem W G_87 w (it_90 :: H) := m.eraseAt 1
  obtain rfl := Option.some.inj hd
  exact ⟨[(.agg #[v_89])], ⟨rc_112, trivial⟩, f.defers, _, [it_90], hl_93, m, _, _, rfl, rfl, o_91⟩

theorem Wk.spec_l1Link {W w : World} {G : GH} {H : List Itm} {v0_0 : Value} {it0_0 : Itm} {x0_0 : (List (List Int))} {x1 : Int} {x2 : Int} (m : Mem W G w (it0_0 :: H)) (o0_0 : Ow (RSl (RI .i64)) 25 G it0_0 v0_0 x0_0) {y : ((List (List Int)))} (hd : D.spec_l1Link x0_0 x1 x2 = some y) :
  Calls Tryd.prog 197 #[(.agg #[v0_0]), (.int .i64 x1), (.int .i64 x2)] w (Res W G H (fun G' Ho v => ∃ i0 : Itm, Ho = [i0] ∧ v = (.agg #[v0_0]) ∧ Ow (RSl (RI .i64)) 25 G' i0 v0_0 y)) := by
 refine calls_b (args := [(.agg #[v0_0]), (.int .i64 x1), (.int .i64 x2)]) (N := 30) [.cell 6 31] Tryd.func197 rfl rfl (Nat.le_of_ble_eq_true rfl) rfl (fun a f => ?_)
 unfold D.spec_l1Link at hd
 refine k_seq ?_
 refine k_region ?_
 refine l_box (cs := [v0_0]) m f rfl rfl rfl (fun b_2 w a m f => ?_)
 refine l_alloc (cs := [(.slice none 0 0)]) Tryd.zeroValue31 m f rfl rfl (fun b_4 w a m f => ?_)
 refine l_nil ?_
 refine k_seq ?_
 refine k_draw 11 Follows (by kernel_rfl) m ?_
 refine q_fieldAddr (i := 0) (listed' := #[true, false, false, false, false, false, false, false, false, false, false, false]) 11 Tryd.underlying31 rfl Tryd.sizeOf22 (by decide) rfl (by kernel_rfl) rfl f rfl rfl rfl (fun a f => ?_)
 refine q_boxCell (i := 1) (listed' := #[true, true, false, false, false, false, false, false, false, false, false, false]) 11 1 Pl22 rfl rfl rfl (by kernel_rfl) rfl f rfl rfl rfl (fun a f => ?_)
 refine q_op (i := 2) (listed' := #[true, true, true, false, false, false, false, false, false, false, false, false]) 11 rfl (by kernel_rfl) rfl f rfl rfl rfl (fun _ _ _ _ _ => r_move (f.eval rfl)) (fun a f => ?_)
 refine q_fieldAddr (i := 3) (listed' := #[true, true, true, true, false, false, false, false, false, false, false, false]) 11 Tryd.underlying31 rfl Tryd.sizeOf22 (by decide) rfl (by kernel_rfl) rfl f rfl rfl rfl (fun a f => ?_)
 refine q_boxCell (i := 4) (listed' := #[true, true, true, true, true, false, false, false, false, false, false, false]) 11 1 Pl22 rfl rfl rfl (by kernel_rfl) rfl f rfl rfl rfl (fun a f => ?_)
 refine q_op (i := 5) (listed' := #[true, true, true, true, true, true, false, false, false, false, false, false]) 11 rfl (by kernel_rfl) rfl f rfl rfl rfl (fun _ _ _ _ _ => r_move (f.eval rfl)) (fun a f => ?_)
 obtain ⟨e_5, he_6, hd⟩ := bind_some hd
 refine q_own_at (i := 6) (listed' := #[true, true, true, true, true, true, true, false, false, false, false, false]) 11 2 m o0_0 rfl T22 he_6 rfl (by kernel_rfl) rfl f rfl rfl rfl rfl (fun p_7 a ha_8 f => ?_)
 refine q_own_load (i := 7) (listed' := #[true, true, true, true, true, true, true, true, false, false, false, false]) 11 2 o0_0 rfl Pl25 ha_8 he_6 rfl (by kernel_rfl) rfl f rfl rfl rfl (fun c_9 a h_10 f => ?_)
 refine q_op (i := 8) (listed' := #[true, true, true, true, true, true, true, true, true, false, false, false]) 11 rfl (by kernel_rfl) rfl f rfl rfl rfl (fun _ _ _ _ _ => r_move (f.eval rfl)) (fun a f => ?_)
 refine q_one (i := 9) (listed' := #[true, true, true, true, true, true, true, true, true, true, false, false]) rfl (by kernel_rfl) rfl (fun G_11 w hl_12 m K_13 K_13 => ?_)
 have h_10 := RSl.mono (RI.mono _) _ _ _ _ hl_12 h_10
 have o0_0 := Ow.mono (RSl.mono (RI.mono _)) hl_12 o0_0
 have m : Mem W G_11 w (Itm.box b_4 31 [(.slice none 0 0)] :: Itm.box b_2 31 [v0_0] :: it0_0 :: H) := m
 obtain ⟨y_14, hy_15, hd⟩ := bind_some hd
 refine l_res f rfl rfl Tryd.call149 (Wk.spec_l1Into m h_10 hy_15) (fun v_19 G_16 Ho_20 w hl_17 m hQ_18 a f => ?_)
 obtain ⟨v_21, rfl, rfl, h_22⟩ := hQ_18
 have h_10 := RSl.mono (RI.mono _) _ _ _ _ hl_17 h_10
 have o0_0 := Ow.mono (RSl.mono (RI.mono _)) hl_17 o0_0
 have m : Mem W G_16 w (Itm.box b_4 31 [(.slice none 0 0)] :: Itm.box b_2 31 [v0_0] :: it0_0 :: H) := m
 refine l_nil ?_
 refine K_13 G_16 [] _ _ hl_17 m ?_
 obtain ⟨e_23, he_24, hd⟩ := bind_some hd
 refine q_own_at (i := 10) (listed' := #[true, true, true, true, true, true, true, true, true, true, true, false]) 11 2 m o0_0 rfl T22 he_24 rfl (by kernel_rfl) rfl f rfl rfl rfl rfl (fun p_25 a ha_26 f => ?_)
 refine q_end (fun G_27 w hl_28 m => ?_)
 have h_10 := RSl.mono (RI.mono _) _ _ _ _ hl_28 h_10
 have h_22 := RSl.mono (RI.mono _) _ _ _ _ hl_28 h_22
 have o0_0 := Ow.mono (RSl.mono (RI.mono _)) hl_28 o0_0
 have m : Mem W G_27 w (Itm.box b_4 31 [(.slice none 0 0)] :: Itm.box b_2 31 [v0_0] :: it0_0 :: H) := m
 refine l_own_store 2 m o0_0 rfl Tryd.sizeOf25 f rfl rfl ha_26 he_24 h_22.cells h_22.one1 h_22 (fun it_29 w m o_30 => ?_)
 have m : Mem W G_27 w (Itm.box b_4 31 [(.slice none 0 0)] :: Itm.box b_2 31 [v0_0] :: it_29 :: H) := m
 refine l_nil ?_
 refine k_seq ?_
 refine k_draw 11 Follows (by kernel_rfl) m ?_
 refine q_fieldAddr (i := 0) (listed' := #[true, false, false, false, false, false, false, false, false, false, false, false]) 11 Tryd.underlying31 rfl Tryd.sizeOf22 (by decide) rfl (by kernel_rfl) rfl f rfl rfl rfl (fun a f => ?_)
 refine q_boxCell (i := 1) (listed' := #[true, true, false, false, false, false, false, false, false, false, false, false]) 11 1 Pl22 rfl rfl rfl (by kernel_rfl) rfl f rfl rfl rfl (fun a f => ?_)
 refine q_op (i := 2) (listed' := #[true, true, true, false, false, false, false, false, false, false, false, false]) 11 rfl (by kernel_rfl) rfl f rfl rfl rfl (fun _ _ _ _ _ => r_move (f.eval rfl)) (fun a f => ?_)
 refine q_fieldAddr (i := 3) (listed' := #[true, true, true, true, false, false, false, false, false, false, false, false]) 11 Tryd.underlying31 rfl Tryd.sizeOf22 (by decide) rfl (by kernel_rfl) rfl f rfl rfl rfl (fun a f => ?_)
 refine q_boxCell (i := 4) (listed' := #[true, true, true, true, true, false, false, false, false, false, false, false]) 11 1 Pl22 rfl rfl rfl (by kernel_rfl) rfl f rfl rfl rfl (fun a f => ?_)
 refine q_op (i := 5) (listed' := #[true, true, true, true, true, true, false, false, false, false, false, false]) 11 rfl (by kernel_rfl) rfl f rfl rfl rfl (fun _ _ _ _ _ => r_move (f.eval rfl)) (fun a f => ?_)
 obtain ⟨e_31, he_32, hd⟩ := bind_some hd
 refine q_own_at (i := 6) (listed' := #[true, true, true, true, true, true, true, false, false, false, false, false]) 11 2 m o_30 rfl T22 he_32 rfl (by kernel_rfl) rfl f rfl rfl rfl rfl (fun p_33 a ha_34 f => ?_)
 refine q_own_load (i := 7) (listed' := #[true, true, true, true, true, true, true, true, false, false, false, false]) 11 2 o_30 rfl Pl25 ha_34 he_32 rfl (by kernel_rfl) rfl f rfl rfl rfl (fun c_35 a h_36 f => ?_)
 refine q_op (i := 8) (listed' := #[true, true, true, true, true, true, true, true, true, false, false, false]) 11 rfl (by kernel_rfl) rfl f rfl rfl rfl (fun _ _ _ _ _ => r_move (f.eval rfl)) (fun a f => ?_)
 refine q_one (i := 9) (listed' := #[true, true, true, true, true, true, true, true, true, true, false, false]) rfl (by kernel_rfl) rfl (fun G_37 w hl_38 m K_39 K_39 => ?_)
 have h_36 := RSl.mono (RI.mono _) _ _ _ _ hl_38 h_36
 have o_30 := Ow.mono (RSl.mono (RI.mono _)) hl_38 o_30
 have m : Mem W G_37 w (Itm.box b_4 31 [(.slice none 0 0)] :: Itm.box b_2 31 [v0_0] :: it_29 :: H) := m
 obtain ⟨y_40, hy_41, hd⟩ := bind_some hd
 refine l_res f rfl rfl Tryd.call149 (Wk.spec_l1Into m h_36 hy_41) (fun v_45 G_42 Ho_46 w hl_43 m hQ_44 a f => ?_)
 obtain ⟨v_47, rfl, rfl, h_48⟩ := hQ_44
 have h_36 := RSl.mono (RI.mono _) _ _ _ _ hl_43 h_36
 have o_30 := Ow.mono (RSl.mono (RI.mono _)) hl_43 o_30
 have m : Mem W G_42 w (Itm.box b_4 31 [(.slice none 0 0)] :: Itm.box b_2 31 [v0_0] :: it_29 :: H) := m
 refine l_nil ?_
 refine K_39 G_42 [] _ _ hl_43 m ?_
 obtain ⟨e_49, he_50, hd⟩ := bind_some hd
 refine q_own_at (i := 10) (listed' := #[true, true, true, true, true, true, true, true, true, true, true, false]) 11 2 m o_30 rfl T22 he_50 rfl (by kernel_rfl) rfl f rfl rfl rfl rfl (fun p_51 a ha_52 f => ?_)
 refine q_end (fun G_53 w hl_54 m => ?_)
 have h_36 := RSl.mono (RI.mono _) _ _ _ _ hl_54 h_36
 have h_48 := RSl.mono (RI.mono _) _ _ _ _ hl_54 h_48
 have o_30 := Ow.mono (RSl.mono (RI.mono _)) hl_54 o_30
 have m : Mem W G_53 w (Itm.box b_4 31 [(.slice none 0 0)] :: Itm.box b_2 31 [v0_0] :: it_29 :: H) := m
 refine l_own_store 2 m o_30 rfl Tryd.sizeOf25 f rfl rfl ha_52 he_50 h_48.cells h_48.one1 h_48 (fun it_55 w m o_56 => ?_)
 have m : Mem W G_53 w (Itm.box b_4 31 [(.slice none 0 0)] :: Itm.box b_2 31 [v0_0] :: it_55 :: H) := m
 refine l_nil ?_
 refine k_seq ?_
 refine k_region ?_
 refine l_boxAgg 1 0 (ds := [v0_0]) m Ag31 f rfl rfl rfl rfl rfl (fun a f => ?_)
 refine l_boxStore 0 0 (ds := [v0_0]) m Tryd.sizeOf31 f rfl rfl rfl (ones_cons (Ow.one1 2 m o_56 rfl) ones_nil) rfl (Nat.le_of_ble_eq_true rfl) rfl (fun w m => ?_)
 have m : Mem W G_53 w (Itm.box b_4 31 [v0_0] :: Itm.box b_2 31 [v0_0] :: it_55 :: H) := m
 refine l_nil ?_
 refine k_ret ?_
 have rc_57 := rr_agg (P := Tryd.prog) 0 m Ag31 f (s := 6) rfl rfl rfl
 have m : Mem W G_53 w (it_55 :: Itm.box b_4 31 [v0_0] :: Itm.box b_2 31 [v0_0] :: H) := m.front 2 rfl
 have m : Mem W G_53 w (it_55 :: Itm.box b_4 31 [v0_0] :: H) := m.eraseAt 2
 have m : Mem W G_53 w (it_55 :: H) := m.eraseAt 1
 obtain rfl := Option.some.inj hd
 exact ⟨[(.agg #[v0_0])], ⟨rc_57, trivial⟩, f.defers, _, [it_55], (GLe.trans hl_12 (GLe.trans hl_17 (GLe.trans hl_28 (GLe.trans hl_38 (GLe.trans hl_43 hl_54))))), m, _, rfl, rfl, o_56⟩

theorem Wk.spec_GraphOf {W w : World} {G : GH} {H : List Itm} {v1 : Value} {x0 : Int} {x1 : (List (List Int))} (m : Mem W G w (H)) (h1 : RSl (RSl (RI .i64)) G v1 x1) {y : ((List (List Int))) × Bool} (hd : D.spec_GraphOf x0 x1 = some y) :
  Calls Tryd.prog 104 #[(.int .i64 x0), v1] w (Res W G H (fun G' Ho v => ∃ r0 : Value, ∃ i0 : Itm, Ho = [i0] ∧ v = .tuple #[(.agg #[r0]), (.bool y.2)] ∧ Ow (RSl (RI .i64)) 25 G' i0 r0 y.1)) := by
 refine calls_b (args := [(.int .i64 x0), v1]) (N := 56) [.cell 4 31, .tmp 5] Tryd.func104 rfl rfl (Nat.le_of_ble_eq_true rfl) rfl (fun a f => ?_)
 unfold D.spec_GraphOf at hd
 refine k_seq ?_
 refine k_region ?_
 refine l_alloc (cs := [(.slice none 0 0)]) Tryd.zeroValue31 m f rfl rfl (fun b_2 w a m f => ?_)
 refine l_op f rfl rfl rfl (r_assign (f.eval rfl)) (fun a f => ?_)
 refine l_nil ?_
 refine k_seq ?_
 refine k_seq ?_
 refine k_region ?_
 refine l_op f rfl rfl rfl (r_move (f.eval rfl)) (fun a f => ?_)
 obtain ⟨y_3, hy_4, hd⟩ := bind_some hd
 refine l_res f rfl rfl Tryd.call109 (Wk.spec_l1In m  hy_4) (fun v_8 G_5 Ho_9 w hl_6 m hQ_7 a f => ?_)
 obtain ⟨rfl, rfl⟩ := hQ_7
 have h1 := RSl.mono (RSl.mono (RI.mono _)) _ _ _ _ hl_6 h1
 have m : Mem W G_5 w (Itm.box b_2 31 [(.slice none 0 0)] :: H) := m
 refine l_op f rfl rfl rfl (r_not (f.eval rfl)) (fun a f => ?_)
 refine l_op f rfl rfl rfl (r_move (f.eval rfl)) (fun a f => ?_)
 refine l_cut 4 (fun a w => ∃ G_11, GLe G_5 G_11 ∧ Mem W G_11 w (Itm.box b_2 31 [(.slice none 0 0)] :: H) ∧ Fr a 56 [(0, (.int .i64 x0)), (1, v1), (4, (.pointer (some ⟨b_2, 0, none⟩))), (8, (.int .i64 x0)), (9, (.bool y_3)), (10, (.bool (!y_3))), (11, (.bool (!y_3))), (15, (.bool ((!y_3) || (decide ((120 : Int) < (x1.length : Int))))))]) ?_ ?_
 ·rcases Bool.eq_false_or_eq_true (!y_3) with hc_10 | hc_10
  ·refine l_not' f rfl rfl rfl hc_10 (fun a f => ?_)
   refine l_not' f rfl rfl rfl hc_10 (fun a f => ?_)
   refine l_not' f rfl rfl rfl hc_10 (fun a f => ?_)
   refine l_op f rfl rfl rfl (r_pickT (f.eval rfl) hc_10 (f.eval rfl)) (fun a f => ?_)
   exact ⟨_, (GLe.refl _), m, f.weak ⟨rfl, rfl, rfl, rfl, rfl, rfl, rfl, by rw [hc_10]; rfl, trivial⟩⟩
  ·refine l_run f rfl rfl hc_10 ?_
   refine l_op f rfl rfl rfl (r_move (f.eval rfl)) (fun a f => ?_)
   refine l_run f rfl rfl hc_10 ?_
   refine l_len Tryd.underlying22 f rfl rfl h1 (fun a f => ?_)
   refine l_run f rfl rfl hc_10 ?_
   refine l_op f rfl rfl rfl (r_int (f.eval rfl) (f.eval rfl) b_gtr) (fun a f => ?_)
   refine l_op f rfl rfl rfl (r_pickF (f.eval rfl) hc_10 (f.eval rfl)) (fun a f => ?_)
   exact ⟨_, (GLe.refl _), m, f.weak ⟨rfl, rfl, rfl, rfl, rfl, rfl, rfl, by rw [hc_10]; rfl, trivial⟩⟩
 ·rintro a w ⟨G_11, hl_12, m, f⟩
  have h1 := RSl.mono (RSl.mono (RI.mono _)) _ _ _ _ hl_12 h1
  refine l_nil ?_
  rcases cond_some hd with ⟨hc_13, hd⟩ | ⟨hc_13, hd⟩
  ·refine k_true f rfl hc_13 ?_
   refine k_seq ?_
   refine k_region ?_
   have hb_14 : ∀ w, (Instr.build 31 #[]).run Tryd.prog w = .ok (.agg #[(.slice none 0 0)]) w := by intro w; simp [Instr.build, Instr.fill, cells_int, cells_bool, cells_string, cells_slice, cells_pointer, cells_agg]
   refine l_build f rfl rfl hb_14 (fun a f => ?_)
   refine l_boxStore 0 0 (ds := [(.slice none 0 0)]) m Tryd.sizeOf31 f rfl rfl rfl (ones_cons rfl ones_nil) rfl (Nat.le_of_ble_eq_true rfl) rfl (fun w m => ?_)
   have m : Mem W G_11 w (Itm.box b_2 31 [(.slice none 0 0)] :: H) := m
   refine l_op f rfl rfl rfl (r_assign (f.eval rfl)) (fun a f => ?_)
   refine l_nil ?_
   refine k_ret ?_
   obtain ⟨it_15, m, o_16⟩ := Ow.nil (RSl (RI .i64)) 25 m
   have m : Mem W G_11 w (it_15 :: Itm.box b_2 31 [(.slice none 0 0)] :: H) := m
   have rc_18 := rr_agg (P := Tryd.prog) 1 m Ag31 f (s := 4) rfl rfl rfl
   have m : Mem W G_11 w (it_15 :: H) := m.eraseAt 1
   obtain rfl := Option.some.inj hd
   exact ⟨[(.agg #[(.slice none 0 0)]), (.bool false)], ⟨rc_18, f.get _ _ rfl, trivial⟩, f.defers, _, [it_15], (GLe.trans hl_6 hl_12), m, _, _, rfl, rfl, o_16⟩
  ·refine k_false f rfl hc_13 ?_
   refine k_skip ?_
   refine k_seq ?_
   refine k_region ?_
   refine l_op f rfl rfl rfl (r_move (f.eval rfl)) (fun a f => ?_)
   obtain ⟨y_19, hy_20, hd⟩ := bind_some hd
   refine l_res f rfl rfl Tryd.call196 (Wk.spec_l1Empty m  hy_20) (fun v_24 G_21 Ho_25 w hl_22 m hQ_23 a f => ?_)
   obtain ⟨v_26, it_27, rfl, rfl, o_28⟩ := hQ_23
   have h1 := RSl.mono (RSl.mono (RI.mono _)) _ _ _ _ hl_22 h1
   have m : Mem W G_21 w (it_27 :: Itm.box b_2 31 [(.slice none 0 0)] :: H) := m
   refine l_alloc (cs := [(.slice none 0 0)]) Tryd.zeroValue31 m f rfl rfl (fun b_31 w a m f => ?_)
   refine l_boxStore 0 0 (ds := [v_26]) m Tryd.sizeOf31 f rfl rfl rfl (ones_cons (Ow.one1 1 m o_28 rfl) ones_nil) rfl (Nat.le_of_ble_eq_true rfl) rfl (fun w m => ?_)
   have m : Mem W G_21 w (Itm.box b_31 31 [v_26] :: it_27 :: Itm.box b_2 31 [(.slice none 0 0)] :: H) := m
   refine l_nil ?_
   refine k_seq ?_
   refine k_seq ?_
   refine k_region ?_
   refine l_op f rfl rfl rfl (r_assign (f.eval rfl)) (fun a f => ?_)
   refine l_nil ?_
   obtain ⟨q_213, hl_214, hd⟩ := bind_some hd
   refine k_cut (fun a w => ∃ q_213' : (List (List Int)), q_213 = .inl q_213' ∧ ∃ l_314 : List (List Int), l_314 = q_213' ∧ ∃ (G_313 : GH) (it_315 : Itm), GLe G_21 G_313 ∧ Fr a 56 [(4, (.pointer (some ⟨b_2, 0, none⟩))), (6, (.pointer (some ⟨b_31, 0, none⟩)))] ∧ Mem W G_313 w (Itm.box b_2 31 [(.slice none 0 0)] :: Itm.box b_31 31 [v_26] :: it_315 :: H) ∧ Ow (RSl (RI .i64)) 25 G_313 it_315 v_26 l_314) ?_ ?_
   ·refine k_block ?_
    have m : Mem W G_21 w (it_27 :: Itm.box b_31 31 [v_26] :: Itm.box b_2 31 [(.slice none 0 0)] :: H) := m.front 1 rfl
    have m : Mem W G_21 w (Itm.box b_31 31 [v_26] :: it_27 :: Itm.box b_2 31 [(.slice none 0 0)] :: H) := m.front 1 rfl
    have m : Mem W G_21 w (Itm.box b_2 31 [(.slice none 0 0)] :: Itm.box b_31 31 [v_26] :: it_27 :: H) := m.front 2 rfl
    refine k_loop (fun s_217 a w => ∃ x_220 : Int, ∃ l_221 : List (List Int), (x_220, l_221) = s_217 ∧ ∃ (G_219 : GH) (it_222 : Itm), GLe G_21 G_219 ∧ Fr a 56 [(0, (.int .i64 x0)), (1, v1), (4, (.pointer (some ⟨b_2, 0, none⟩))), (6, (.pointer (some ⟨b_31, 0, none⟩))), (7, (.int .i64 x_220))] ∧ Mem W G_219 w (Itm.box b_2 31 [(.slice none 0 0)] :: Itm.box b_31 31 [v_26] :: it_222 :: H) ∧ Ow (RSl (RI .i64)) 25 G_219 it_222 v_26 l_221) hl_214 ⟨_, _, rfl, _, it_27, (GLe.refl _), f.weak ⟨rfl, rfl, rfl, rfl, rfl, trivial⟩, m, o_28⟩ ?_
    clear hl_214 f m
    rintro s_217 o_218 hs_215 hq_216 a w ⟨x_220, l_221, rfl, G_219, it_222, hl_224, f, m, o_223⟩
    have h1 := RSl.mono (RSl.mono (RI.mono _)) _ _ _ _ hl_224 h1
    refine k_seq ?_
    refine k_seq ?_
    refine k_region ?_
    refine l_op f rfl rfl rfl (r_move (f.eval rfl)) (fun a f => ?_)
    refine l_op f rfl rfl rfl (r_move (f.eval rfl)) (fun a f => ?_)
    refine l_len Tryd.underlying22 f rfl rfl h1 (fun a f => ?_)
    refine l_op f rfl rfl rfl (r_int (f.eval rfl) (f.eval rfl) b_lss) (fun a f => ?_)
    refine l_nil ?_
    rcases cond_some hs_215 with ⟨hc_318, hs_215⟩ | ⟨hc_318, hs_215⟩
    ·refine k_true f rfl hc_318 ?_
     refine k_skip ?_
     refine k_seq ?_
     refine k_block ?_
     refine k_seq ?_
     refine k_seq ?_
     refine k_region ?_
     refine l_op f rfl rfl rfl (r_move (f.eval rfl)) (fun a f => ?_)
     refine l_op f rfl rfl rfl (r_move (f.eval rfl)) (fun a f => ?_)
     obtain ⟨e_319, he_320, hs_215⟩ := bind_some hs_215
     refine l_at T22 f rfl rfl rfl h1 he_320 (fun p_321 c_322 a g_323 h_324 f => ?_)
     refine l_loadAt m Pl25 f rfl rfl g_323 (fun a f => ?_)
     refine l_len Tryd.underlying25 f rfl rfl h_324 (fun a f => ?_)
     refine l_op f rfl rfl rfl (r_int (f.eval rfl) (f.eval rfl) b_neq) (fun a f => ?_)
     refine l_op f rfl rfl rfl (r_move (f.eval rfl)) (fun a f => ?_)
     obtain ⟨b_354, hj_355, hs_215⟩ := bind_some hs_215
     refine l_cut 8 (fun a w => ∃ G_352, GLe G_219 G_352 ∧ Mem W G_352 w (Itm.box b_2 31 [(.slice none 0 0)] :: Itm.box b_31 31 [v_26] :: it_222 :: H) ∧ Fr a 56 [(0, (.int .i64 x0)), (1, v1), (4, (.pointer (some ⟨b_2, 0, none⟩))), (6, (.pointer (some ⟨b_31, 0, none⟩))), (7, (.int .i64 x_220)), (22, (.bool (decide (x_220 < (x1.length : Int))))), (25, v1), (26, (.int .i64 x_220)), (27, p_321), (28, c_322), (29, (.int .i64 (e_319.length : Int))), (30, (.bool ((e_319.length : Int) != 2))), (31, (.bool ((e_319.length : Int) != 2))), (39, (.bool b_354))]) ?_ ?_
     ·rcases cond_some hj_355 with ⟨hc_325, hj_355⟩ | ⟨hc_325, hj_355⟩
      ·refine l_not' f rfl rfl rfl hc_325 (fun a f => ?_)
       refine l_not' f rfl rfl rfl hc_325 (fun a f => ?_)
       refine l_not' f rfl rfl rfl hc_325 (fun a f => ?_)
       refine l_not' f rfl rfl rfl hc_325 (fun a f => ?_)
       refine l_not' f rfl rfl rfl hc_325 (fun a f => ?_)
       refine l_not' f rfl rfl rfl hc_325 (fun a f => ?_)
       refine l_not' f rfl rfl rfl hc_325 (fun a f => ?_)
       refine l_op f rfl rfl rfl (r_pickT (f.eval rfl) hc_325 (f.eval rfl)) (fun a f => ?_)
       obtain rfl := Option.some.inj hj_355
       have m : Mem W G_219 w (it_222 :: Itm.box b_2 31 [(.slice none 0 0)] :: Itm.box b_31 31 [v_26] :: H) := m.front 2 rfl
       have m : Mem W G_219 w (Itm.box b_31 31 [v_26] :: it_222 :: Itm.box b_2 31 [(.slice none 0 0)] :: H) := m.front 2 rfl
       have m : Mem W G_219 w (Itm.box b_2 31 [(.slice none 0 0)] :: Itm.box b_31 31 [v_26] :: it_222 :: H) := m.front 2 rfl
       exact ⟨_, (GLe.refl _), m, f.weak ⟨rfl, rfl, rfl, rfl, rfl, rfl, rfl, rfl, rfl, rfl, rfl, rfl, rfl, rfl, trivial⟩⟩
      ·refine l_run f rfl rfl hc_325 ?_
       refine l_op f rfl rfl rfl (r_move (f.eval rfl)) (fun a f => ?_)
       refine l_run f rfl rfl hc_325 ?_
       refine l_op f rfl rfl rfl (r_move (f.eval rfl)) (fun a f => ?_)
       refine l_run f rfl rfl hc_325 ?_
       obtain ⟨e_356, he_357, hj_355⟩ := bind_some hj_355
       refine l_at T22 f rfl rfl rfl h1 he_357 (fun p_358 c_359 a g_360 h_361 f => ?_)
       refine l_run f rfl rfl hc_325 ?_
       refine l_loadAt m Pl25 f rfl rfl g_360 (fun a f => ?_)
       refine l_run f rfl rfl hc_325 ?_
       refine l_op f rfl rfl rfl (r_move (f.eval rfl)) (fun a f => ?_)
       refine l_run f rfl rfl hc_325 ?_
       obtain ⟨y_362, hy_363, hj_355⟩ := bind_some hj_355
       refine l_res f rfl rfl Tryd.call110 (Wk.spec_l1Set m h_361 hy_363) (fun v_367 G_364 Ho_368 w hl_365 m hQ_366 a f => ?_)
       obtain ⟨rfl, rfl⟩ := hQ_366
       have h1 := RSl.mono (RSl.mono (RI.mono _)) _ _ _ _ hl_365 h1
       have g_323 := At.mono hl_365 g_323
       have h_324 := RSl.mono (RI.mono _) _ _ _ _ hl_365 h_324
       have g_360 := At.mono hl_365 g_360
       have h_361 := RSl.mono (RI.mono _) _ _ _ _ hl_365 h_361
       have o_223 := Ow.mono (RSl.mono (RI.mono _)) hl_365 o_223
       have m : Mem W G_364 w (Itm.box b_2 31 [(.slice none 0 0)] :: Itm.box b_31 31 [v_26] :: it_222 :: H) := m
       refine l_run f rfl rfl hc_325 ?_
       refine l_op f rfl rfl rfl (r_not (f.eval rfl)) (fun a f => ?_)
       refine l_op f rfl rfl rfl (r_pickF (f.eval rfl) hc_325 (f.eval rfl)) (fun a f => ?_)
       obtain rfl := Option.some.inj hj_355
       have m : Mem W G_364 w (it_222 :: Itm.box b_2 31 [(.slice none 0 0)] :: Itm.box b_31 31 [v_26] :: H) := m.front 2 rfl
       have m : Mem W G_364 w (Itm.box b_31 31 [v_26] :: it_222 :: Itm.box b_2 31 [(.slice none 0 0)] :: H) := m.front 2 rfl
       have m : Mem W G_364 w (Itm.box b_2 31 [(.slice none 0 0)] :: Itm.box b_31 31 [v_26] :: it_222 :: H) := m.front 2 rfl
       exact ⟨_, hl_365, m, f.weak ⟨rfl, rfl, rfl, rfl, rfl, rfl, rfl, rfl, rfl, rfl, rfl, rfl, rfl, rfl, trivial⟩⟩
     ·rintro a w ⟨G_352, hl_353, m, f⟩
      have h1 := RSl.mono (RSl.mono (RI.mono _)) _ _ _ _ hl_353 h1
      have g_323 := At.mono hl_353 g_323
      have h_324 := RSl.mono (RI.mono _) _ _ _ _ hl_353 h_324
      have o_223 := Ow.mono (RSl.mono (RI.mono _)) hl_353 o_223
      refine l_nil ?_
      rcases cond_some hs_215 with ⟨hc_369, hs_215⟩ | ⟨hc_369, hs_215⟩
      ·refine k_true f rfl hc_369 ?_
       refine k_seq ?_
       refine k_region ?_
       have hb_370 : ∀ w, (Instr.build 31 #[]).run Tryd.prog w = .ok (.agg #[(.slice none 0 0)]) w := by intro w; simp [Instr.build, Instr.fill, cells_int, cells_bool, cells_string, cells_slice, cells_pointer, cells_agg]
       refine l_build f rfl rfl hb_370 (fun a f => ?_)
       refine l_boxStore 0 0 (ds := [(.slice none 0 0)]) m Tryd.sizeOf31 f rfl rfl rfl (ones_cons rfl ones_nil) rfl (Nat.le_of_ble_eq_true rfl) rfl (fun w m => ?_)
       have m : Mem W G_352 w (Itm.box b_2 31 [(.slice none 0 0)] :: Itm.box b_31 31 [v_26] :: it_222 :: H) := m
       refine l_op f rfl rfl rfl (r_assign (f.eval rfl)) (fun a f => ?_)
       refine l_nil ?_
       refine k_ret ?_
       obtain ⟨it_371, m, o_372⟩ := Ow.nil (RSl (RI .i64)) 25 m
       have m : Mem W G_352 w (it_371 :: Itm.box b_2 31 [(.slice none 0 0)] :: Itm.box b_31 31 [v_26] :: it_222 :: H) := m
       have rc_374 := rr_agg (P := Tryd.prog) 1 m Ag31 f (s := 4) rfl rfl rfl
       have m : Mem W G_352 w (it_371 :: Itm.box b_2 31 [(.slice none 0 0)] :: Itm.box b_31 31 [v_26] :: H) := m.eraseAt 3
       have m : Mem W G_352 w (it_371 :: Itm.box b_2 31 [(.slice none 0 0)] :: H) := m.eraseAt 2
       have m : Mem W G_352 w (it_371 :: H) := m.eraseAt 1
       obtain rfl := Option.some.inj hs_215
       obtain rfl := hq_216 _ rfl
       obtain rfl := Option.some.inj hd
       exact ⟨[(.agg #[(.slice none 0 0)]), (.bool false)], ⟨rc_374, f.get _ _ rfl, trivial⟩, f.defers, _, [it_371], (GLe.trans hl_6 (GLe.trans hl_12 (GLe.trans hl_22 (GLe.trans hl_224 hl_353)))), m, _, _, rfl, rfl, o_372⟩
      ·refine k_false f rfl hc_369 ?_
       refine k_skip ?_
       refine k_draw 13 Follows (by kernel_rfl) m ?_
       refine q_boxAgg (i := 0) (listed' := #[true, false, false, false, false, false, false, false, false, false, false, false, false, false, false]) (ds := [v_26]) 13 1 Ag31 rfl rfl rfl rfl (by kernel_rfl) rfl f rfl rfl rfl (fun a f => ?_)
       refine q_op (i := 1) (listed' := #[true, true, false, false, false, false, false, false, false, false, false, false, false, false, false]) 13 rfl (by kernel_rfl) rfl f rfl rfl rfl (fun _ _ _ _ _ => r_move (f.eval rfl)) (fun a f => ?_)
       refine q_op (i := 2) (listed' := #[true, true, true, false, false, false, false, false, false, false, false, false, false, false, false]) 13 rfl (by kernel_rfl) rfl f rfl rfl rfl (fun _ _ _ _ _ => r_move (f.eval rfl)) (fun a f => ?_)
       obtain ⟨e_375, he_376, hs_215⟩ := bind_some hs_215
       refine q_at (i := 3) (listed' := #[true, true, true, true, false, false, false, false, false, false, false, false, false, false, false]) 13 T22 h1 he_376 rfl (by kernel_rfl) rfl f rfl rfl rfl rfl (fun p_377 c_378 a g_379 h_380 f => ?_)
       refine q_loadAt (i := 4) (listed' := #[true, true, true, true, true, false, false, false, false, false, false, false, false, false, false]) 13 Pl25 g_379 rfl (by kernel_rfl) rfl f rfl rfl rfl (fun a f => ?_)
       obtain ⟨e_381, he_382, hs_215⟩ := bind_some hs_215
       refine q_at (i := 5) (listed' := #[true, true, true, true, true, true, false, false, false, false, false, false, false, false, false]) 13 T25 h_380 he_382 rfl (by kernel_rfl) rfl f rfl rfl rfl rfl (fun p_383 c_384 a g_385 h_386 f => ?_)
       subst h_386
       refine q_loadAt (i := 6) (listed' := #[true, true, true, true, true, true, true, false, false, false, false, false, false, false, false]) 13 Pl2 g_385 rfl (by kernel_rfl) rfl f rfl rfl rfl (fun a f => ?_)
       refine q_op (i := 7) (listed' := #[true, true, true, true, true, true, true, true, false, false, false, false, false, false, false]) 13 rfl (by kernel_rfl) rfl f rfl rfl rfl (fun _ _ _ _ _ => r_move (f.eval rfl)) (fun a f => ?_)
       refine q_op (i := 8) (listed' := #[true, true, true, true, true, true, true, true, true, false, false, false, false, false, false]) 13 rfl (by kernel_rfl) rfl f rfl rfl rfl (fun _ _ _ _ _ => r_move (f.eval rfl)) (fun a f => ?_)
       obtain ⟨e_387, he_388, hs_215⟩ := bind_some hs_215
       refine q_at (i := 9) (listed' := #[true, true, true, true, true, true, true, true, true, true, false, false, false, false, false]) 13 T22 h1 he_388 rfl (by kernel_rfl) rfl f rfl rfl rfl rfl (fun p_389 c_390 a g_391 h_392 f => ?_)
       refine q_loadAt (i := 10) (listed' := #[true, true, true, true, true, true, true, true, true, true, true, false, false, false, false]) 13 Pl25 g_391 rfl (by kernel_rfl) rfl f rfl rfl rfl (fun a f => ?_)
       obtain ⟨e_393, he_394, hs_215⟩ := bind_some hs_215
       refine q_at (i := 11) (listed' := #[true, true, true, true, true, true, true, true, true, true, true, true, false, false, false]) 13 T25 h_392 he_394 rfl (by kernel_rfl) rfl f rfl rfl rfl rfl (fun p_395 c_396 a g_397 h_398 f => ?_)
       subst h_398
       refine q_loadAt (i := 12) (listed' := #[true, true, true, true, true, true, true, true, true, true, true, true, true, false, false]) 13 Pl2 g_397 rfl (by kernel_rfl) rfl f rfl rfl rfl (fun a f => ?_)
       refine q_end (fun G_399 w hl_400 m => ?_)
       have h1 := RSl.mono (RSl.mono (RI.mono _)) _ _ _ _ hl_400 h1
       have g_379 := At.mono hl_400 g_379
       have h_380 := RSl.mono (RI.mono _) _ _ _ _ hl_400 h_380
       have g_385 := At.mono hl_400 g_385
       have g_391 := At.mono hl_400 g_391
       have h_392 := RSl.mono (RI.mono _) _ _ _ _ hl_400 h_392
       have g_397 := At.mono hl_400 g_397
       have o_223 := Ow.mono (RSl.mono (RI.mono _)) hl_400 o_223
       have m : Mem W G_399 w (Itm.box b_2 31 [(.slice none 0 0)] :: Itm.box b_31 31 [v_26] :: it_222 :: H) := m
       have m : Mem W G_399 w (it_222 :: Itm.box b_2 31 [(.slice none 0 0)] :: Itm.box b_31 31 [v_26] :: H) := m.front 2 rfl
       obtain ⟨y_401, hy_402, hs_215⟩ := bind_some hs_215
       refine l_res f rfl rfl Tryd.call197 (Wk.spec_l1Link m o_223 hy_402) (fun v_406 G_403 Ho_407 w hl_404 m hQ_405 a f => ?_)
       obtain ⟨it_408, rfl, rfl, o_409⟩ := hQ_405
       have h1 := RSl.mono (RSl.mono (RI.mono _)) _ _ _ _ hl_404 h1
       have g_379 := At.mono hl_404 g_379
       have h_380 := RSl.mono (RI.mono _) _ _ _ _ hl_404 h_380
       have g_385 := At.mono hl_404 g_385
       have g_391 := At.mono hl_404 g_391
       have h_392 := RSl.mono (RI.mono _) _ _ _ _ hl_404 h_392
       have g_397 := At.mono hl_404 g_397
       have m : Mem W G_403 w (it_408 :: Itm.box b_2 31 [(.slice none 0 0)] :: Itm.box b_31 31 [v_26] :: H) := m
       refine l_boxStore 2 0 (ds := [v_26]) m Tryd.sizeOf31 f rfl rfl rfl (ones_cons (Ow.one1 0 m o_409 rfl) ones_nil) rfl (Nat.le_of_ble_eq_true rfl) rfl (fun w m => ?_)
       have m : Mem W G_403 w (it_408 :: Itm.box b_2 31 [(.slice none 0 0)] :: Itm.box b_31 31 [v_26] :: H) := m
       refine l_nil ?_
       refine k_region ?_
       refine l_op f rfl rfl rfl (r_move (f.eval rfl)) (fun a f => ?_)
       refine l_op f rfl rfl rfl (r_int (f.eval rfl) (f.eval rfl) b_add) (fun a f => ?_)
       refine l_op f rfl rfl rfl (r_assign (f.eval rfl)) (fun a f => ?_)
       refine l_nil ?_
       have m : Mem W G_403 w (Itm.box b_31 31 [v_26] :: it_408 :: Itm.box b_2 31 [(.slice none 0 0)] :: H) := m.front 2 rfl
       have m : Mem W G_403 w (Itm.box b_2 31 [(.slice none 0 0)] :: Itm.box b_31 31 [v_26] :: it_408 :: H) := m.front 2 rfl
       obtain rfl := Option.some.inj hs_215
       exact ⟨_, rfl, _, _, rfl, _, it_408, (GLe.trans hl_224 (GLe.trans hl_353 (GLe.trans hl_400 hl_404))), f.weak ⟨rfl, rfl, rfl, rfl, rfl, trivial⟩, m, o_409⟩
    ·refine k_false f rfl hc_318 ?_
     refine k_exit rfl ?_
     have m : Mem W G_219 w (it_222 :: Itm.box b_2 31 [(.slice none 0 0)] :: Itm.box b_31 31 [v_26] :: H) := m.front 2 rfl
     have m : Mem W G_219 w (Itm.box b_31 31 [v_26] :: it_222 :: Itm.box b_2 31 [(.slice none 0 0)] :: H) := m.front 2 rfl
     have m : Mem W G_219 w (Itm.box b_2 31 [(.slice none 0 0)] :: Itm.box b_31 31 [v_26] :: it_222 :: H) := m.front 2 rfl
     obtain rfl := Option.some.inj hs_215
     obtain rfl := hq_216 _ rfl
     exact ⟨_, rfl, _, rfl, _, it_222, hl_224, f.weak ⟨rfl, rfl, trivial⟩, m, o_223⟩
   ·rintro a w ⟨_, rfl, l_314, rfl, G_313, it_315, hl_317, f, m, o_316⟩
    refine k_seq ?_
    refine k_region ?_
    refine l_boxAgg 1 0 (ds := [v_26]) m Ag31 f rfl rfl rfl rfl rfl (fun a f => ?_)
    refine l_boxStore 0 0 (ds := [v_26]) m Tryd.sizeOf31 f rfl rfl rfl (ones_cons (Ow.one1 2 m o_316 rfl) ones_nil) rfl (Nat.le_of_ble_eq_true rfl) rfl (fun w m => ?_)
    have m : Mem W G_313 w (Itm.box b_2 31 [v_26] :: Itm.box b_31 31 [v_26] :: it_315 :: H) := m
    refine l_op f rfl rfl rfl (r_assign (f.eval rfl)) (fun a f => ?_)
    refine l_nil ?_
    refine k_ret ?_
    have rc_410 := rr_agg (P := Tryd.prog) 0 m Ag31 f (s := 4) rfl rfl rfl
    have m : Mem W G_313 w (it_315 :: Itm.box b_2 31 [v_26] :: Itm.box b_31 31 [v_26] :: H) := m.front 2 rfl
    have m : Mem W G_313 w (it_315 :: Itm.box b_2 31 [v_26] :: H) := m.eraseAt 2
    have m : Mem W G_313 w (it_315 :: H) := m.eraseAt 1
    obtain rfl := Option.some.inj hd
    exact ⟨[(.agg #[v_26]), (.bool true)], ⟨rc_410, f.get _ _ rfl, trivial⟩, f.defers, _, [it_315], (GLe.trans hl_6 (GLe.trans hl_12 (GLe.trans hl_22 hl_317))), m, _, _, rfl, rfl, o_316⟩

theorem Wk.spec_l1Edges {W w : World} {G : GH} {H : List Itm} {v0_0 : Value} {x0_0 : (List (List Int))} (m : Mem W G w (H)) (h0_0 : RSl (RSl (RI .i64)) G v0_0 x0_0) {y : ((List (List Int)))} (hd : D.spec_l1Edges x0_0 = some y) :
  Calls Tryd.prog 113 #[(.agg #[v0_0])] w (Res W G H (fun G' Ho v => ∃ r0 : Value, ∃ i0 : Itm, Ho = [i0] ∧ r0 = v ∧ Ow (RSl (RI .i64)) 25 G' i0 r0 y)) := by
 refine calls_b (args := [(.agg #[v0_0])]) (N := 47) [.tmp 2] Tryd.func113 rfl rfl (Nat.le_of_ble_eq_true rfl) rfl (fun a f => ?_)
 unfold D.spec_l1Edges at hd
 refine k_seq ?_
 refine k_region ?_
 refine l_box (cs := [v0_0]) m f rfl rfl rfl (fun b_2 w a m f => ?_)
 refine l_op f rfl rfl rfl (r_assign (f.eval rfl)) (fun a f => ?_)
 refine l_nil ?_
 refine k_seq ?_
 refine k_region ?_
 refine l_slit (R := (RSl (RI .i64))) (xs := ([] : List (List Int))) (RSl.one _) m T22 f rfl rfl rfl (by decide) (All2.nil _) (fun it_3 v_4 w a m o_5 f => ?_)
 refine l_op f rfl rfl rfl (r_assign (f.eval rfl)) (fun a f => ?_)
 refine l_nil ?_
 refine k_seq ?_
 refine k_seq ?_
 refine k_region ?_
 refine l_op f rfl rfl rfl (r_assign (f.eval rfl)) (fun a f => ?_)
 refine l_nil ?_
 obtain ⟨q_478, hl_479, hd⟩ := bind_some hd
 refine k_cut (fun a w => ∃ l_725 : List (List Int), l_725 = q_478 ∧ ∃ (G_724 : GH) (v_726 : Value) (it_727 : Itm), GLe G G_724 ∧ Fr a 47 [(3, v_726)] ∧ Mem W G_724 w (it_727 :: H) ∧ Ow (RSl (RI .i64)) 25 G_724 it_727 v_726 l_725) ?_ ?_
 ·refine k_block ?_
  have m : Mem W G w (Itm.box b_2 31 [v0_0] :: it_3 :: H) := m.front 1 rfl
  refine k_loop (fun s_482 a w => ∃ l_485 : List (List Int), ∃ x_490 : Int, (l_485, x_490) = s_482 ∧ ∃ (G_484 : GH) (v_486 : Value) (it_487 : Itm), GLe G G_484 ∧ Fr a 47 [(1, (.pointer (some ⟨b_2, 0, none⟩))), (3, v_486), (4, (.int .i64 x_490))] ∧ Mem W G_484 w (Itm.box b_2 31 [v0_0] :: it_487 :: H) ∧ Ow (RSl (RI .i64)) 25 G_484 it_487 v_486 l_485) hl_479 ⟨_, _, rfl, _, v_4, it_3, (GLe.refl _), f.weak ⟨rfl, rfl, rfl, trivial⟩, m, o_5⟩ ?_
  clear hl_479 f m
  rintro s_482 o_483 hs_480 hq_481 a w ⟨l_485, x_490, rfl, G_484, v_486, it_487, hl_491, f, m, o_488⟩
  have h0_0 := RSl.mono (RSl.mono (RI.mono _)) _ _ _ _ hl_491 h0_0
  refine k_seq ?_
  refine k_seq ?_
  refine k_region ?_
  refine l_op f rfl rfl rfl (r_move (f.eval rfl)) (fun a f => ?_)
  refine l_boxAgg 0 0 (ds := [v0_0]) m Ag31 f rfl rfl rfl rfl rfl (fun a f => ?_)
  obtain ⟨y_731, hy_732, hs_480⟩ := bind_some hs_480
  refine l_res f rfl rfl Tryd.call108 (Wk.spec_l1Size m h0_0 hy_732) (fun v_736 G_733 Ho_737 w hl_734 m hQ_735 a f => ?_)
  obtain ⟨rfl, rfl⟩ := hQ_735
  have h0_0 := RSl.mono (RSl.mono (RI.mono _)) _ _ _ _ hl_734 h0_0
  have o_488 := Ow.mono (RSl.mono (RI.mono _)) hl_734 o_488
  have m : Mem W G_733 w (Itm.box b_2 31 [v0_0] :: it_487 :: H) := m
  refine l_op f rfl rfl rfl (r_int (f.eval rfl) (f.eval rfl) b_lss) (fun a f => ?_)
  refine l_nil ?_
  rcases cond_some hs_480 with ⟨hc_738, hs_480⟩ | ⟨hc_738, hs_480⟩
  ·refine k_true f rfl hc_738 ?_
   refine k_skip ?_
   refine k_seq ?_
   refine k_block ?_
   refine k_seq ?_
   refine k_region ?_
   refine l_op f rfl rfl rfl (r_assign (f.eval rfl)) (fun a f => ?_)
   refine l_nil ?_
   obtain ⟨q_844, hl_845, hs_480⟩ := bind_some hs_480
   refine k_cut (fun a w => ∃ l_908 : List (List Int), l_908 = q_844 ∧ ∃ (G_907 : GH) (v_909 : Value) (it_910 : Itm), GLe G_733 G_907 ∧ Fr a 47 [(1, (.pointer (some ⟨b_2, 0, none⟩))), (3, v_909), (4, (.int .i64 x_490))] ∧ Mem W G_907 w (Itm.box b_2 31 [v0_0] :: it_910 :: H) ∧ Ow (RSl (RI .i64)) 25 G_907 it_910 v_909 l_908) ?_ ?_
   ·refine k_block ?_
    have m : Mem W G_733 w (it_487 :: Itm.box b_2 31 [v0_0] :: H) := m.front 1 rfl
    have m : Mem W G_733 w (Itm.box b_2 31 [v0_0] :: it_487 :: H) := m.front 1 rfl
    refine k_loop (fun s_848 a w => ∃ l_851 : List (List Int), ∃ x_856 : Int, (l_851, x_856) = s_848 ∧ ∃ (G_850 : GH) (v_852 : Value) (it_853 : Itm), GLe G_733 G_850 ∧ Fr a 47 [(1, (.pointer (some ⟨b_2, 0, none⟩))), (3, v_852), (4, (.int .i64 x_490)), (5, (.int .i64 x_856))] ∧ Mem W G_850 w (Itm.box b_2 31 [v0_0] :: it_853 :: H) ∧ Ow (RSl (RI .i64)) 25 G_850 it_853 v_852 l_851) hl_845 ⟨_, _, rfl, _, v_486, it_487, (GLe.refl _), f.weak ⟨rfl, rfl, rfl, rfl, trivial⟩, m, o_488⟩ ?_
    clear hl_845 f m
    rintro s_848 o_849 hs_846 hq_847 a w ⟨l_851, x_856, rfl, G_850, v_852, it_853, hl_857, f, m, o_854⟩
    have h0_0 := RSl.mono (RSl.mono (RI.mono _)) _ _ _ _ hl_857 h0_0
    refine k_seq ?_
    refine k_seq ?_
    refine k_region ?_
    refine l_op f rfl rfl rfl (r_move (f.eval rfl)) (fun a f => ?_)
    refine l_fieldAddr Tryd.underlying31 rfl Tryd.sizeOf22 (by decide) f rfl rfl (fun a f => ?_)
    refine l_boxCell 0 0 m Pl22 f rfl rfl rfl rfl (fun a f => ?_)
    refine l_op f rfl rfl rfl (r_move (f.eval rfl)) (fun a f => ?_)
    obtain ⟨e_914, he_915, hs_846⟩ := bind_some hs_846
    refine l_at T22 f rfl rfl rfl h0_0 he_915 (fun p_916 c_917 a g_918 h_919 f => ?_)
    refine l_loadAt m Pl25 f rfl rfl g_918 (fun a f => ?_)
    refine l_len Tryd.underlying25 f rfl rfl h_919 (fun a f => ?_)
    refine l_op f rfl rfl rfl (r_int (f.eval rfl) (f.eval rfl) b_lss) (fun a f => ?_)
    refine l_nil ?_
    rcases cond_some hs_846 with ⟨hc_920, hs_846⟩ | ⟨hc_920, hs_846⟩
    ·refine k_true f rfl hc_920 ?_
     refine k_skip ?_
     refine k_seq ?_
     refine k_block ?_
     refine k_seq ?_
     refine k_region ?_
     refine l_fieldAddr Tryd.underlying31 rfl Tryd.sizeOf22 (by decide) f rfl rfl (fun a f => ?_)
     refine l_boxCell 0 0 m Pl22 f rfl rfl rfl rfl (fun a f => ?_)
     refine l_op f rfl rfl rfl (r_move (f.eval rfl)) (fun a f => ?_)
     obtain ⟨e_921, he_922, hs_846⟩ := bind_some hs_846
     refine l_at T22 f rfl rfl rfl h0_0 he_922 (fun p_923 c_924 a g_925 h_926 f => ?_)
     refine l_loadAt m Pl25 f rfl rfl g_925 (fun a f => ?_)
     refine l_op f rfl rfl rfl (r_move (f.eval rfl)) (fun a f => ?_)
     obtain ⟨e_927, he_928, hs_846⟩ := bind_some hs_846
     refine l_at T25 f rfl rfl rfl h_926 he_928 (fun p_929 c_930 a g_931 h_932 f => ?_)
     subst h_932
     refine l_loadAt m Pl2 f rfl rfl g_931 (fun a f => ?_)
     refine l_op f rfl rfl rfl (r_move (f.eval rfl)) (fun a f => ?_)
     refine l_op f rfl rfl rfl (r_int (f.eval rfl) (f.eval rfl) b_gtr) (fun a f => ?_)
     refine l_nil ?_
     rcases cond_some hs_846 with ⟨hc_933, hs_846⟩ | ⟨hc_933, hs_846⟩
     ·refine k_true f rfl hc_933 ?_
      refine k_region ?_
      refine l_op f rfl rfl rfl (r_move (f.eval rfl)) (fun a f => ?_)
      refine l_op f rfl rfl rfl (r_move (f.eval rfl)) (fun a f => ?_)
      refine l_fieldAddr Tryd.underlying31 rfl Tryd.sizeOf22 (by decide) f rfl rfl (fun a f => ?_)
      refine l_boxCell 0 0 m Pl22 f rfl rfl rfl rfl (fun a f => ?_)
      refine l_op f rfl rfl rfl (r_move (f.eval rfl)) (fun a f => ?_)
      obtain ⟨e_934, he_935, hs_846⟩ := bind_some hs_846
      refine l_at T22 f rfl rfl rfl h0_0 he_935 (fun p_936 c_937 a g_938 h_939 f => ?_)
      refine l_loadAt m Pl25 f rfl rfl g_938 (fun a f => ?_)
      refine l_op f rfl rfl rfl (r_move (f.eval rfl)) (fun a f => ?_)
      obtain ⟨e_940, he_941, hs_846⟩ := bind_some hs_846
      refine l_at T25 f rfl rfl rfl h_939 he_941 (fun p_942 c_943 a g_944 h_945 f => ?_)
      subst h_945
      refine l_loadAt m Pl2 f rfl rfl g_944 (fun a f => ?_)
      refine l_slit (R := (RI .i64)) (xs := ([x_490, e_940] : List Int)) (RI.one _) m T25 f rfl rfl rfl (by decide) (All2.cons rfl (All2.cons rfl (All2.nil _))) (fun it_946 v_947 w a m o_948 f => ?_)
      obtain ⟨G_950, hl_951, m, h_952⟩ := Ow.stamp (RI.mono _) o_948 m
      have h0_0 := RSl.mono (RSl.mono (RI.mono _)) _ _ _ _ hl_951 h0_0
      have g_938 := At.mono hl_951 g_938
      have h_939 := RSl.mono (RI.mono _) _ _ _ _ hl_951 h_939
      have g_944 := At.mono hl_951 g_944
      have o_854 := Ow.mono (RSl.mono (RI.mono _)) hl_951 o_854
      have m : Mem W G_950 w (Itm.box b_2 31 [v0_0] :: it_853 :: H) := m
      refine l_slit (R := (RSl (RI .i64))) (xs := ([([x_490, e_940] : List Int)] : List (List Int))) (RSl.one _) m T22 f rfl rfl rfl (by decide) (All2.cons h_952 (All2.nil _)) (fun it_953 v_954 w a m o_955 f => ?_)
      obtain ⟨l_957, hx_958, hs_846⟩ := bind_some hs_846
      refine l_append (RSl.one _) 2 m o_854 rfl T22 rfl (by decide) f rfl rfl rfl (Ow.src (j := 0) o_955 m rfl) hx_958 (fun it_959 v_960 w a m o_961 f => ?_)
      have m : Mem W G_950 w (it_953 :: Itm.box b_2 31 [v0_0] :: it_959 :: H) := m
      refine l_op f rfl rfl rfl (r_assign (f.eval rfl)) (fun a f => ?_)
      refine l_nil ?_
      refine k_region ?_
      refine l_op f rfl rfl rfl (r_move (f.eval rfl)) (fun a f => ?_)
      refine l_op f rfl rfl rfl (r_int (f.eval rfl) (f.eval rfl) b_add) (fun a f => ?_)
      refine l_op f rfl rfl rfl (r_assign (f.eval rfl)) (fun a f => ?_)
      refine l_nil ?_
      have m : Mem W G_950 w (it_959 :: it_953 :: Itm.box b_2 31 [v0_0] :: H) := m.front 2 rfl
      have m : Mem W G_950 w (Itm.box b_2 31 [v0_0] :: it_959 :: it_953 :: H) := m.front 2 rfl
      have m : Mem W G_950 w (Itm.box b_2 31 [v0_0] :: it_959 :: H) := m.eraseAt 2
      obtain rfl := Option.some.inj hs_846
      exact ⟨_, rfl, _, _, rfl, _, v_960, it_959, (GLe.trans hl_857 hl_951), f.weak ⟨rfl, rfl, rfl, rfl, trivial⟩, m, o_961⟩
     ·refine k_false f rfl hc_933 ?_
      refine k_skip ?_
      refine k_region ?_
      refine l_op f rfl rfl rfl (r_move (f.eval rfl)) (fun a f => ?_)
      refine l_op f rfl rfl rfl (r_int (f.eval rfl) (f.eval rfl) b_add) (fun a f => ?_)
      refine l_op f rfl rfl rfl (r_assign (f.eval rfl)) (fun a f => ?_)
      refine l_nil ?_
      have m : Mem W G_850 w (it_853 :: Itm.box b_2 31 [v0_0] :: H) := m.front 1 rfl
      have m : Mem W G_850 w (Itm.box b_2 31 [v0_0] :: it_853 :: H) := m.front 1 rfl
      obtain rfl := Option.some.inj hs_846
      exact ⟨_, rfl, _, _, rfl, _, v_852, it_853, hl_857, f.weak ⟨rfl, rfl, rfl, rfl, trivial⟩, m, o_854⟩
    ·refine k_false f rfl hc_920 ?_
     refine k_exit rfl ?_
     have m : Mem W G_850 w (it_853 :: Itm.box b_2 31 [v0_0] :: H) := m.front 1 rfl
     have m : Mem W G_850 w (Itm.box b_2 31 [v0_0] :: it_853 :: H) := m.front 1 rfl
     obtain rfl := Option.some.inj hs_846
     obtain rfl := hq_847 _ rfl
     exact ⟨_, rfl, _, v_852, it_853, hl_857, f.weak ⟨rfl, rfl, rfl, trivial⟩, m, o_854⟩
   ·rintro a w ⟨l_908, rfl, G_907, v_909, it_910, hl_913, f, m, o_911⟩
    have h0_0 := RSl.mono (RSl.mono (RI.mono _)) _ _ _ _ hl_913 h0_0
    refine k_region ?_
    refine l_op f rfl rfl rfl (r_move (f.eval rfl)) (fun a f => ?_)
    refine l_op f rfl rfl rfl (r_int (f.eval rfl) (f.eval rfl) b_add) (fun a f => ?_)
    refine l_op f rfl rfl rfl (r_assign (f.eval rfl)) (fun a f => ?_)
    refine l_nil ?_
    have m : Mem W G_907 w (it_910 :: Itm.box b_2 31 [v0_0] :: H) := m.front 1 rfl
    have m : Mem W G_907 w (Itm.box b_2 31 [v0_0] :: it_910 :: H) := m.front 1 rfl
    obtain rfl := Option.some.inj hs_480
    exact ⟨_, rfl, _, _, rfl, _, v_909, it_910, (GLe.trans hl_491 (GLe.trans hl_734 hl_913)), f.weak ⟨rfl, rfl, rfl, trivial⟩, m, o_911⟩
  ·refine k_false f rfl hc_738 ?_
   refine k_exit rfl ?_
   have m : Mem W G_733 w (it_487 :: Itm.box b_2 31 [v0_0] :: H) := m.front 1 rfl
   have m : Mem W G_733 w (it_487 :: H) := m.eraseAt 1
   obtain rfl := Option.some.inj hs_480
   obtain rfl := hq_481 _ rfl
   exact ⟨_, rfl, _, v_486, it_487, (GLe.trans hl_491 hl_734), f.weak ⟨rfl, trivial⟩, m, o_488⟩
 ·rintro a w ⟨l_725, rfl, G_724, v_726, it_727, hl_730, f, m, o_728⟩
  refine k_seq ?_
  refine k_region ?_
  refine l_op f rfl rfl rfl (r_move (f.eval rfl)) (fun a f => ?_)
  refine l_op f rfl rfl rfl (r_assign (f.eval rfl)) (fun a f => ?_)
  refine l_nil ?_
  refine k_ret ?_
  obtain rfl := Option.some.inj hd
  exact ⟨[v_726], ⟨f.get _ _ rfl, trivial⟩, f.defers, _, [it_727], hl_730, m, _, _, rfl, rfl, o_728⟩

end Go.Proofs.YteegnmdggpcphaaDoor
