/- Parts of the proof: V1W. -/
import Derived.Test.YteegnmdggpcphaaDoorPi5
import Derived.Test.YteegnmdggpcphaaDoorProg
import Derived.KernelRfl
set_option linter.unusedVariables false
set_option linter.unusedSimpArgs false
set_option linter.unusedSectionVars false
set_option maxRecDepth 100000
namespace Go.Proofs.YteegnmdggpcphaaDoor
open Go Go.Sx
theorem T45 : SlT Tryd.prog 45 5 1 1 (.int .u8 0) := ⟨Tryd.underlying45, Tryd.t5, by kernel_rfl, by kernel_rfl, by kernel_rfl, by kernel_rfl⟩
theorem Pl49 : Plain Tryd.prog 49 := Tryd.isAgg49
theorem Pl45 : Plain Tryd.prog 45 := Tryd.isAgg45

theorem Wk.laws_big {W w : World} {G : GH} {H : List Itm} {v0 : Value} {x0 : (List Int)} (m : Mem W G w (H)) (h0 : RSl (RI .u8) G v0 x0) {y : Bool} (hd : D.laws_big x0 = some y) :
  Calls Tryd.prog 30 #[v0] w (Res W G H (fun _ Ho v => Ho = [] ∧ v = (.bool y))) := by
 refine calls_b (args := [v0]) (N := 6) [.tmp 2] Tryd.func30 rfl rfl (Nat.le_of_ble_eq_true rfl) rfl (fun a f => ?_)
 unfold D.laws_big at hd
 refine k_seq ?_
 refine k_region ?_
 refine l_op f rfl rfl rfl (r_assign (f.eval rfl)) (fun a f => ?_)
 refine l_nil ?_
 refine k_seq ?_
 refine k_region ?_
 refine l_op f rfl rfl rfl (r_move (f.eval rfl)) (fun a f => ?_)
 refine l_len Tryd.underlying45 f rfl rfl h0 (fun a f => ?_)
 refine l_op f rfl rfl rfl (r_int (f.eval rfl) (f.eval rfl) b_gtr) (fun a f => ?_)
 refine l_op f rfl rfl rfl (r_assign (f.eval rfl)) (fun a f => ?_)
 refine l_nil ?_
 refine k_ret ?_
 obtain rfl := Option.some.inj hd
 exact ⟨[(.bool (decide ((4096 : Int) < (x0.length : Int))))], ⟨f.get _ _ rfl, trivial⟩, f.defers, _, [], (GLe.refl _), m, rfl, rfl⟩

theorem Wk.laws_roll {W w : World} {G : GH} {H : List Itm} {v0 : Value} {x0 : (List Int)} {x1 : Int} (m : Mem W G w (H)) (h0 : RSl (RI .u8) G v0 x0) {y : ((List Int)) × Int × Int} (hd : D.laws_roll x0 x1 = some y) :
  Calls Tryd.prog 31 #[v0, (.int .u64 x1)] w (Res W G H (fun G' Ho v => ∃ r0 : Value, ∃ c1 : Nat, Ho = [Itm.box c1 110 [r0, (.int .i64 y.2.1), (.int .u64 y.2.2)]] ∧ v = (.pointer (some ⟨c1, 0, none⟩)) ∧ RSl (RI .u8) G' r0 y.1)) := by
 refine calls_b (args := [v0, (.int .u64 x1)]) (N := 38) [.tmp 4] Tryd.func31 rfl rfl (Nat.le_of_ble_eq_true rfl) rfl (fun a f => ?_)
 unfold D.laws_roll at hd
 refine k_seq ?_
 refine k_region ?_
 refine l_op f rfl rfl rfl (r_assign (f.eval rfl)) (fun a f => ?_)
 refine l_nil ?_
 refine k_seq ?_
 refine k_region ?_
 refine l_op f rfl rfl rfl (r_move (f.eval rfl)) (fun a f => ?_)
 refine l_op f rfl rfl rfl (r_move (f.eval rfl)) (fun a f => ?_)
 refine l_op f rfl rfl rfl (r_int (f.eval rfl) (f.eval rfl) b_mul) (fun a f => ?_)
 refine l_op f rfl rfl rfl (r_move (f.eval rfl)) (fun a f => ?_)
 refine l_len Tryd.underlying45 f rfl rfl h0 (fun a f => ?_)
 refine l_op f rfl rfl rfl (r_conv (f.eval rfl) ⟨_, Tryd.underlying3⟩ Tryd.underlying49) (fun a f => ?_)
 refine l_op f rfl rfl rfl (r_int (f.eval rfl) (f.eval rfl) b_add) (fun a f => ?_)
 have hb_1 : ∀ w, (Instr.build 110 #[(0, v0), (2, (.int .u64 (IntKind.u64.wrap ((IntKind.u64.wrap (x1 * 7919)) + (IntKind.u64.wrap (x0.length : Int))))))]).run Tryd.prog w = .ok (.agg #[v0, (.int .i64 0), (.int .u64 (IntKind.u64.wrap ((IntKind.u64.wrap (x1 * 7919)) + (IntKind.u64.wrap (x0.length : Int)))))]) w := by intro w; simp [Instr.build, Instr.fill, h0.cells, cells_int, cells_bool, cells_string, cells_slice, cells_pointer, cells_agg]
 refine l_build f rfl rfl hb_1 (fun a f => ?_)
 refine l_box (cs := [v0, (.int .i64 0), (.int .u64 (IntKind.u64.wrap ((IntKind.u64.wrap (x1 * 7919)) + (IntKind.u64.wrap (x0.length : Int)))))]) m f rfl rfl rfl (fun b_3 w a m f => ?_)
 refine l_op f rfl rfl rfl (r_assign (f.eval rfl)) (fun a f => ?_)
 refine l_nil ?_
 refine k_seq ?_
 refine k_seq ?_
 refine k_region ?_
 refine l_op f rfl rfl rfl (r_assign (f.eval rfl)) (fun a f => ?_)
 refine l_nil ?_
 obtain ⟨q_25, hl_26, hd⟩ := bind_some hd
 refine k_cut (fun a w => ∃ x_45 : Int, x_45 = q_25 ∧ ∃ (G_44 : GH), GLe G G_44 ∧ Fr a 38 [(5, (.pointer (some ⟨b_3, 0, none⟩)))] ∧ Mem W G_44 w (Itm.box b_3 110 [v0, (.int .i64 0), (.int .u64 x_45)] :: H)) ?_ ?_
 ·refine k_block ?_
  refine k_loop (fun s_29 a w => ∃ x_32 : Int, ∃ x_33 : Int, (x_32, x_33) = s_29 ∧ ∃ (G_31 : GH), GLe G G_31 ∧ Fr a 38 [(0, v0), (5, (.pointer (some ⟨b_3, 0, none⟩))), (6, (.int .i64 x_32))] ∧ Mem W G_31 w (Itm.box b_3 110 [v0, (.int .i64 0), (.int .u64 x_33)] :: H)) hl_26 ⟨_, _, rfl, _, (GLe.refl _), f.weak ⟨rfl, rfl, rfl, trivial⟩, m⟩ ?_
  clear hl_26 f m
  rintro s_29 o_30 hs_27 hq_28 a w ⟨x_32, x_33, rfl, G_31, hl_34, f, m⟩
  have h0 := RSl.mono (RI.mono _) _ _ _ _ hl_34 h0
  refine k_seq ?_
  refine k_seq ?_
  refine k_region ?_
  refine l_op f rfl rfl rfl (r_move (f.eval rfl)) (fun a f => ?_)
  refine l_op f rfl rfl rfl (r_move (f.eval rfl)) (fun a f => ?_)
  refine l_len Tryd.underlying45 f rfl rfl h0 (fun a f => ?_)
  refine l_op f rfl rfl rfl (r_int (f.eval rfl) (f.eval rfl) b_lss) (fun a f => ?_)
  refine l_nil ?_
  rcases cond_some hs_27 with ⟨hc_47, hs_27⟩ | ⟨hc_47, hs_27⟩
  ·refine k_true f rfl hc_47 ?_
   refine k_skip ?_
   refine k_seq ?_
   refine k_block ?_
   refine k_draw 15 Follows (by kernel_rfl) m ?_
   refine q_op (i := 0) (listed' := #[true, false, false, false, false, false, false, false, false, false, false, false, false, false, false, false]) 15 rfl (by kernel_rfl) rfl f rfl rfl rfl (fun _ _ _ _ _ => r_move (f.eval rfl)) (fun a f => ?_)
   refine q_op (i := 1) (listed' := #[true, true, false, false, false, false, false, false, false, false, false, false, false, false, false, false]) 15 rfl (by kernel_rfl) rfl f rfl rfl rfl (fun _ _ _ _ _ => r_move (f.eval rfl)) (fun a f => ?_)
   refine q_op (i := 2) (listed' := #[true, true, true, false, false, false, false, false, false, false, false, false, false, false, false, false]) 15 rfl (by kernel_rfl) rfl f rfl rfl rfl (fun _ _ _ _ _ => r_nilCheck (f.eval rfl)) (fun a f => ?_)
   refine q_fieldAddr (i := 3) (listed' := #[true, true, true, true, false, false, false, false, false, false, false, false, false, false, false, false]) 15 Tryd.underlying110 rfl Tryd.sizeOf49 (by decide) rfl (by kernel_rfl) rfl f rfl rfl rfl (fun a f => ?_)
   refine q_boxCell (i := 4) (listed' := #[true, true, true, true, true, false, false, false, false, false, false, false, false, false, false, false]) 15 0 Pl49 rfl rfl rfl (by kernel_rfl) rfl f rfl rfl rfl (fun a f => ?_)
   refine q_op (i := 5) (listed' := #[true, true, true, true, true, true, false, false, false, false, false, false, false, false, false, false]) 15 rfl (by kernel_rfl) rfl f rfl rfl rfl (fun _ _ _ _ _ => r_int (f.eval rfl) (f.eval rfl) b_mul) (fun a f => ?_)
   refine q_op (i := 6) (listed' := #[true, true, true, true, true, true, true, false, false, false, false, false, false, false, false, false]) 15 rfl (by kernel_rfl) rfl f rfl rfl rfl (fun _ _ _ _ _ => r_move (f.eval rfl)) (fun a f => ?_)
   refine q_op (i := 7) (listed' := #[true, true, true, true, true, true, true, true, false, false, false, false, false, false, false, false]) 15 rfl (by kernel_rfl) rfl f rfl rfl rfl (fun _ _ _ _ _ => r_move (f.eval rfl)) (fun a f => ?_)
   obtain ⟨e_48, he_49, hs_27⟩ := bind_some hs_27
   refine q_at (i := 8) (listed' := #[true, true, true, true, true, true, true, true, true, false, false, false, false, false, false, false]) 15 T45 h0 he_49 rfl (by kernel_rfl) rfl f rfl rfl rfl rfl (fun p_50 c_51 a g_52 h_53 f => ?_)
   subst h_53
   refine q_loadAt (i := 9) (listed' := #[true, true, true, true, true, true, true, true, true, true, false, false, false, false, false, false]) 15 Pl5 g_52 rfl (by kernel_rfl) rfl f rfl rfl rfl (fun a f => ?_)
   refine q_op (i := 10) (listed' := #[true, true, true, true, true, true, true, true, true, true, true, false, false, false, false, false]) 15 rfl (by kernel_rfl) rfl f rfl rfl rfl (fun _ _ _ _ _ => r_conv (f.eval rfl) ⟨_, Tryd.underlying5⟩ Tryd.underlying49) (fun a f => ?_)
   refine q_op (i := 11) (listed' := #[true, true, true, true, true, true, true, true, true, true, true, true, false, false, false, false]) 15 rfl (by kernel_rfl) rfl f rfl rfl rfl (fun _ _ _ _ _ => r_int (f.eval rfl) (f.eval rfl) b_add) (fun a f => ?_)
   refine q_op (i := 12) (listed' := #[true, true, true, true, true, true, true, true, true, true, true, true, true, false, false, false]) 15 rfl (by kernel_rfl) rfl f rfl rfl rfl (fun _ _ _ _ _ => r_int (f.eval rfl) (f.eval rfl) b_add) (fun a f => ?_)
   refine q_op (i := 13) (listed' := #[true, true, true, true, true, true, true, true, true, true, true, true, true, true, false, false]) 15 rfl (by kernel_rfl) rfl f rfl rfl rfl (fun _ _ _ _ _ => r_nilCheck (f.eval rfl)) (fun a f => ?_)
   refine q_fieldAddr (i := 14) (listed' := #[true, true, true, true, true, true, true, true, true, true, true, true, true, true, true, false]) 15 Tryd.underlying110 rfl Tryd.sizeOf49 (by decide) rfl (by kernel_rfl) rfl f rfl rfl rfl (fun a f => ?_)
   refine q_end (fun G_54 w hl_55 m => ?_)
   have h0 := RSl.mono (RI.mono _) _ _ _ _ hl_55 h0
   have g_52 := At.mono hl_55 g_52
   have m : Mem W G_54 w (Itm.box b_3 110 [v0, (.int .i64 0), (.int .u64 x_33)] :: H) := m
   refine l_boxStore 0 2 (ds := [(.int .u64 (IntKind.u64.wrap ((IntKind.u64.wrap ((IntKind.u64.wrap (x_33 * 1099511628211)) + (IntKind.u64.wrap e_48))) + 3)))]) m Tryd.sizeOf49 f rfl rfl rfl (ones_cons rfl ones_nil) rfl (Nat.le_of_ble_eq_true rfl) rfl (fun w m => ?_)
   have m : Mem W G_54 w (Itm.box b_3 110 [v0, (.int .i64 0), (.int .u64 (IntKind.u64.wrap ((IntKind.u64.wrap ((IntKind.u64.wrap (x_33 * 1099511628211)) + (IntKind.u64.wrap e_48))) + 3)))] :: H) := m
   refine l_nil ?_
   refine k_region ?_
   refine l_op f rfl rfl rfl (r_move (f.eval rfl)) (fun a f => ?_)
   refine l_op f rfl rfl rfl (r_int (f.eval rfl) (f.eval rfl) b_add) (fun a f => ?_)
   refine l_op f rfl rfl rfl (r_assign (f.eval rfl)) (fun a f => ?_)
   refine l_nil ?_
   obtain rfl := Option.some.inj hs_27
   exact ⟨_, rfl, _, _, rfl, _, (GLe.trans hl_34 hl_55), f.weak ⟨rfl, rfl, rfl, trivial⟩, m⟩
  ·refine k_false f rfl hc_47 ?_
   refine k_exit rfl ?_
   obtain rfl := Option.some.inj hs_27
   obtain rfl := hq_28 _ rfl
   exact ⟨_, rfl, _, hl_34, f.weak ⟨rfl, trivial⟩, m⟩
 ·rintro a w ⟨x_45, rfl, G_44, hl_46, f, m⟩
  have h0 := RSl.mono (RI.mono _) _ _ _ _ hl_46 h0
  refine k_seq ?_
  refine k_region ?_
  refine l_op f rfl rfl rfl (r_move (f.eval rfl)) (fun a f => ?_)
  refine l_op f rfl rfl rfl (r_assign (f.eval rfl)) (fun a f => ?_)
  refine l_nil ?_
  refine k_ret ?_
  obtain rfl := Option.some.inj hd
  exact ⟨[(.pointer (some ⟨b_3, 0, none⟩))], ⟨f.get _ _ rfl, trivial⟩, f.defers, _, [Itm.box b_3 110 [v0, (.int .i64 0), (.int .u64 x_45)]], hl_46, m, _, _, rfl, rfl, h0⟩

theorem Wk.laws_dice_below {W w : World} {G : GH} {H : List Itm} {v0_0 : Value} {b0 : Nat} {x0_0 : (List Int)} {x0_1 : Int} {x0_2 : Int} {x1 : Int} (m : Mem W G w (Itm.box b0 110 [v0_0, (.int .i64 x0_1), (.int .u64 x0_2)] :: H)) (h0_0 : RSl (RI .u8) G v0_0 x0_0) {y : Int × ((List Int)) × Int × Int} (hd : D.laws_dice_below x0_0 x0_1 x0_2 x1 = some y) :
  Calls Tryd.prog 60 #[(.pointer (some ⟨b0, 0, none⟩)), (.int .i64 x1)] w (Res W G H (fun G' Ho v => ∃ r0 : Value, Ho = [Itm.box b0 110 [r0, (.int .i64 y.2.2.1), (.int .u64 y.2.2.2)]] ∧ v = (.int .i64 y.1) ∧ RSl (RI .u8) G' r0 y.2.1)) := by
 refine calls_b (args := [(.pointer (some ⟨b0, 0, none⟩)), (.int .i64 x1)]) (N := 56) [.tmp 4] Tryd.func60 rfl rfl (Nat.le_of_ble_eq_true rfl) rfl (fun a f => ?_)
 unfold D.laws_dice_below at hd
 refine k_seq ?_
 refine k_region ?_
 refine l_op f rfl rfl rfl (r_assign (f.eval rfl)) (fun a f => ?_)
 refine l_nil ?_
 refine k_seq ?_
 refine k_region ?_
 refine l_op f rfl rfl rfl (r_move (f.eval rfl)) (fun a f => ?_)
 refine l_op f rfl rfl rfl (r_move (f.eval rfl)) (fun a f => ?_)
 refine l_op f rfl rfl rfl (r_nilCheck (f.eval rfl)) (fun a f => ?_)
 refine l_fieldAddr Tryd.underlying110 rfl Tryd.sizeOf49 (by decide) f rfl rfl (fun a f => ?_)
 refine l_boxCell 0 2 m Pl49 f rfl rfl rfl rfl (fun a f => ?_)
 refine l_op f rfl rfl rfl (r_int (f.eval rfl) (f.eval rfl) b_mul) (fun a f => ?_)
 refine l_op f rfl rfl rfl (r_int (f.eval rfl) (f.eval rfl) b_add) (fun a f => ?_)
 refine l_op f rfl rfl rfl (r_nilCheck (f.eval rfl)) (fun a f => ?_)
 refine l_fieldAddr Tryd.underlying110 rfl Tryd.sizeOf49 (by decide) f rfl rfl (fun a f => ?_)
 refine l_boxStore 0 2 (ds := [(.int .u64 (IntKind.u64.wrap ((IntKind.u64.wrap (x0_2 * 6364136223846793005)) + 1442695040888963407)))]) m Tryd.sizeOf49 f rfl rfl rfl (ones_cons rfl ones_nil) rfl (Nat.le_of_ble_eq_true rfl) rfl (fun w m => ?_)
 have m : Mem W G w (Itm.box b0 110 [v0_0, (.int .i64 x0_1), (.int .u64 (IntKind.u64.wrap ((IntKind.u64.wrap (x0_2 * 6364136223846793005)) + 1442695040888963407)))] :: H) := m
 refine l_nil ?_
 refine k_seq ?_
 refine k_region ?_
 refine l_op f rfl rfl rfl (r_move (f.eval rfl)) (fun a f => ?_)
 refine l_op f rfl rfl rfl (r_nilCheck (f.eval rfl)) (fun a f => ?_)
 refine l_fieldAddr Tryd.underlying110 rfl Tryd.sizeOf49 (by decide) f rfl rfl (fun a f => ?_)
 refine l_boxCell 0 2 m Pl49 f rfl rfl rfl rfl (fun a f => ?_)
 refine l_op f rfl rfl rfl (r_shr (f.eval rfl) (f.eval rfl) (by decide)) (fun a f => ?_)
 refine l_op f rfl rfl rfl (r_int (f.eval rfl) (f.eval rfl) b_and) (fun a f => ?_)
 refine l_op f rfl rfl rfl (r_conv (f.eval rfl) ⟨_, Tryd.underlying49⟩ Tryd.underlying2) (fun a f => ?_)
 refine l_op f rfl rfl rfl (r_assign (f.eval rfl)) (fun a f => ?_)
 refine l_nil ?_
 refine k_seq ?_
 refine k_seq ?_
 refine k_draw 10 Follows (by kernel_rfl) m ?_
 refine q_op (i := 0) (listed' := #[true, false, false, false, false, false, false, false, false, false]) 10 rfl (by kernel_rfl) rfl f rfl rfl rfl (fun _ _ _ _ _ => r_move (f.eval rfl)) (fun a f => ?_)
 refine q_op (i := 1) (listed' := #[true, true, false, false, false, false, false, false, false, false]) 10 rfl (by kernel_rfl) rfl f rfl rfl rfl (fun _ _ _ _ _ => r_nilCheck (f.eval rfl)) (fun a f => ?_)
 refine q_fieldAddr (i := 2) (listed' := #[true, true, true, false, false, false, false, false, false, false]) 10 Tryd.underlying110 rfl Tryd.sizeOf3 (by decide) rfl (by kernel_rfl) rfl f rfl rfl rfl (fun a f => ?_)
 refine q_boxCell (i := 3) (listed' := #[true, true, true, true, false, false, false, false, false, false]) 10 0 Pl3 rfl rfl rfl (by kernel_rfl) rfl f rfl rfl rfl (fun a f => ?_)
 refine q_op (i := 4) (listed' := #[true, true, true, true, true, false, false, false, false, false]) 10 rfl (by kernel_rfl) rfl f rfl rfl rfl (fun _ _ _ _ _ => r_move (f.eval rfl)) (fun a f => ?_)
 refine q_op (i := 5) (listed' := #[true, true, true, true, true, true, false, false, false, false]) 10 rfl (by kernel_rfl) rfl f rfl rfl rfl (fun _ _ _ _ _ => r_nilCheck (f.eval rfl)) (fun a f => ?_)
 refine q_fieldAddr (i := 6) (listed' := #[true, true, true, true, true, true, true, false, false, false]) 10 Tryd.underlying110 rfl Tryd.sizeOf45 (by decide) rfl (by kernel_rfl) rfl f rfl rfl rfl (fun a f => ?_)
 refine q_boxCell (i := 7) (listed' := #[true, true, true, true, true, true, true, true, false, false]) 10 0 Pl45 rfl rfl rfl (by kernel_rfl) rfl f rfl rfl rfl (fun a f => ?_)
 refine q_len (i := 8) (listed' := #[true, true, true, true, true, true, true, true, true, false]) 10 Tryd.underlying45 h0_0 rfl (by kernel_rfl) rfl f rfl rfl rfl (fun a f => ?_)
 refine q_op (i := 9) (listed' := #[true, true, true, true, true, true, true, true, true, true]) 10 rfl (by kernel_rfl) rfl f rfl rfl rfl (fun _ _ _ _ _ => r_int (f.eval rfl) (f.eval rfl) b_lss) (fun a f => ?_)
 refine q_end (fun G_2 w hl_3 m => ?_)
 have h0_0 := RSl.mono (RI.mono _) _ _ _ _ hl_3 h0_0
 have m : Mem W G_2 w (Itm.box b0 110 [v0_0, (.int .i64 x0_1), (.int .u64 (IntKind.u64.wrap ((IntKind.u64.wrap (x0_2 * 6364136223846793005)) + 1442695040888963407)))] :: H) := m
 refine l_nil ?_
 rcases cond_some hd with ⟨hc_4, hd⟩ | ⟨hc_4, hd⟩
 ·refine k_true f rfl hc_4 ?_
  refine k_seq ?_
  refine k_draw 14 Follows (by kernel_rfl) m ?_
  refine q_op (i := 0) (listed' := #[true, false, false, false, false, false, false, false, false, false, false, false, false, false]) 14 rfl (by kernel_rfl) rfl f rfl rfl rfl (fun _ _ _ _ _ => r_move (f.eval rfl)) (fun a f => ?_)
  refine q_op (i := 1) (listed' := #[true, true, false, false, false, false, false, false, false, false, false, false, false, false]) 14 rfl (by kernel_rfl) rfl f rfl rfl rfl (fun _ _ _ _ _ => r_move (f.eval rfl)) (fun a f => ?_)
  refine q_op (i := 2) (listed' := #[true, true, true, false, false, false, false, false, false, false, false, false, false, false]) 14 rfl (by kernel_rfl) rfl f rfl rfl rfl (fun _ _ _ _ _ => r_nilCheck (f.eval rfl)) (fun a f => ?_)
  refine q_fieldAddr (i := 3) (listed' := #[true, true, true, true, false, false, false, false, false, false, false, false, false, false]) 14 Tryd.underlying110 rfl Tryd.sizeOf45 (by decide) rfl (by kernel_rfl) rfl f rfl rfl rfl (fun a f => ?_)
  refine q_boxCell (i := 4) (listed' := #[true, true, true, true, true, false, false, false, false, false, false, false, false, false]) 14 0 Pl45 rfl rfl rfl (by kernel_rfl) rfl f rfl rfl rfl (fun a f => ?_)
  refine q_op (i := 5) (listed' := #[true, true, true, true, true, true, false, false, false, false, false, false, false, false]) 14 rfl (by kernel_rfl) rfl f rfl rfl rfl (fun _ _ _ _ _ => r_move (f.eval rfl)) (fun a f => ?_)
  refine q_op (i := 6) (listed' := #[true, true, true, true, true, true, true, false, false, false, false, false, false, false]) 14 rfl (by kernel_rfl) rfl f rfl rfl rfl (fun _ _ _ _ _ => r_nilCheck (f.eval rfl)) (fun a f => ?_)
  refine q_fieldAddr (i := 7) (listed' := #[true, true, true, true, true, true, true, true, false, false, false, false, false, false]) 14 Tryd.underlying110 rfl Tryd.sizeOf3 (by decide) rfl (by kernel_rfl) rfl f rfl rfl rfl (fun a f => ?_)
  refine q_boxCell (i := 8) (listed' := #[true, true, true, true, true, true, true, true, true, false, false, false, false, false]) 14 0 Pl3 rfl rfl rfl (by kernel_rfl) rfl f rfl rfl rfl (fun a f => ?_)
  obtain ⟨e_5, he_6, hd⟩ := bind_some hd
  refine q_at (i := 9) (listed' := #[true, true, true, true, true, true, true, true, true, true, false, false, false, false]) 14 T45 h0_0 he_6 rfl (by kernel_rfl) rfl f rfl rfl rfl rfl (fun p_7 c_8 a g_9 h_10 f => ?_)
  subst h_10
  refine q_loadAt (i := 10) (listed' := #[true, true, true, true, true, true, true, true, true, true, true, false, false, false]) 14 Pl5 g_9 rfl (by kernel_rfl) rfl f rfl rfl rfl (fun a f => ?_)
  refine q_op (i := 11) (listed' := #[true, true, true, true, true, true, true, true, true, true, true, true, false, false]) 14 rfl (by kernel_rfl) rfl f rfl rfl rfl (fun _ _ _ _ _ => r_conv (f.eval rfl) ⟨_, Tryd.underlying5⟩ Tryd.underlying2) (fun a f => ?_)
  refine q_op (i := 12) (listed' := #[true, true, true, true, true, true, true, true, true, true, true, true, true, false]) 14 rfl (by kernel_rfl) rfl f rfl rfl rfl (fun _ _ _ _ _ => r_int (f.eval rfl) (f.eval rfl) b_add) (fun a f => ?_)
  refine q_op (i := 13) (listed' := #[true, true, true, true, true, true, true, true, true, true, true, true, true, true]) 14 rfl (by kernel_rfl) rfl f rfl rfl rfl (fun _ _ _ _ _ => r_assign (f.eval rfl)) (fun a f => ?_)
  refine q_end (fun G_11 w hl_12 m => ?_)
  have h0_0 := RSl.mono (RI.mono _) _ _ _ _ hl_12 h0_0
  have g_9 := At.mono hl_12 g_9
  have m : Mem W G_11 w (Itm.box b0 110 [v0_0, (.int .i64 x0_1), (.int .u64 (IntKind.u64.wrap ((IntKind.u64.wrap (x0_2 * 6364136223846793005)) + 1442695040888963407)))] :: H) := m
  refine l_nil ?_
  refine k_region ?_
  refine l_op f rfl rfl rfl (r_move (f.eval rfl)) (fun a f => ?_)
  refine l_op f rfl rfl rfl (r_move (f.eval rfl)) (fun a f => ?_)
  refine l_op f rfl rfl rfl (r_nilCheck (f.eval rfl)) (fun a f => ?_)
  refine l_fieldAddr Tryd.underlying110 rfl Tryd.sizeOf3 (by decide) f rfl rfl (fun a f => ?_)
  refine l_boxCell 0 1 m Pl3 f rfl rfl rfl rfl (fun a f => ?_)
  refine l_op f rfl rfl rfl (r_int (f.eval rfl) (f.eval rfl) b_add) (fun a f => ?_)
  refine l_op f rfl rfl rfl (r_nilCheck (f.eval rfl)) (fun a f => ?_)
  refine l_fieldAddr Tryd.underlying110 rfl Tryd.sizeOf3 (by decide) f rfl rfl (fun a f => ?_)
  refine l_boxStore 0 1 (ds := [(.int .i64 (IntKind.i64.wrap (x0_1 + 1)))]) m Tryd.sizeOf3 f rfl rfl rfl (ones_cons rfl ones_nil) rfl (Nat.le_of_ble_eq_true rfl) rfl (fun w m => ?_)
  have m : Mem W G_11 w (Itm.box b0 110 [v0_0, (.int .i64 (IntKind.i64.wrap (x0_1 + 1))), (.int .u64 (IntKind.u64.wrap ((IntKind.u64.wrap (x0_2 * 6364136223846793005)) + 1442695040888963407)))] :: H) := m
  refine l_nil ?_
  refine k_seq ?_
  refine k_region ?_
  refine l_op f rfl rfl rfl (r_move (f.eval rfl)) (fun a f => ?_)
  refine l_op f rfl rfl rfl (r_move (f.eval rfl)) (fun a f => ?_)
  obtain ⟨hn_13, hd⟩ := cond_none hd
  refine l_op f rfl rfl rfl (r_int (f.eval rfl) (f.eval rfl) (b_rem hn_13)) (fun a f => ?_)
  refine l_op f rfl rfl rfl (r_assign (f.eval rfl)) (fun a f => ?_)
  refine l_nil ?_
  refine k_ret ?_
  obtain rfl := Option.some.inj hd
  exact ⟨[(.int .i64 (Int.tmod (IntKind.i64.wrap ((IntKind.i64.wrap (iand .u64 (ishr .u64 (IntKind.u64.wrap ((IntKind.u64.wrap (x0_2 * 6364136223846793005)) + 1442695040888963407)) 33) 16777215)) + (IntKind.i64.wrap e_5))) x1))], ⟨f.get _ _ rfl, trivial⟩, f.defers, _, [Itm.box b0 110 [v0_0, (.int .i64 (IntKind.i64.wrap (x0_1 + 1))), (.int .u64 (IntKind.u64.wrap ((IntKind.u64.wrap (x0_2 * 6364136223846793005)) + 1442695040888963407)))]], (GLe.trans hl_3 hl_12), m, _, rfl, rfl, h0_0⟩
 ·refine k_false f rfl hc_4 ?_
  refine k_skip ?_
  refine k_seq ?_
  refine k_region ?_
  refine l_op f rfl rfl rfl (r_move (f.eval rfl)) (fun a f => ?_)
  refine l_op f rfl rfl rfl (r_move (f.eval rfl)) (fun a f => ?_)
  obtain ⟨hn_14, hd⟩ := cond_none hd
  refine l_op f rfl rfl rfl (r_int (f.eval rfl) (f.eval rfl) (b_rem hn_14)) (fun a f => ?_)
  refine l_op f rfl rfl rfl (r_assign (f.eval rfl)) (fun a f => ?_)
  refine l_nil ?_
  refine k_ret ?_
  obtain rfl := Option.some.inj hd
  exact ⟨[(.int .i64 (Int.tmod (IntKind.i64.wrap (iand .u64 (ishr .u64 (IntKind.u64.wrap ((IntKind.u64.wrap (x0_2 * 6364136223846793005)) + 1442695040888963407)) 33) 16777215)) x1))], ⟨f.get _ _ rfl, trivial⟩, f.defers, _, [Itm.box b0 110 [v0_0, (.int .i64 x0_1), (.int .u64 (IntKind.u64.wrap ((IntKind.u64.wrap (x0_2 * 6364136223846793005)) + 1442695040888963407)))]], hl_3, m, _, rfl, rfl, h0_0⟩

theorem Wk.spec_l1Empty {W w : World} {G : GH} {H : List Itm} {x0 : Int} (m : Mem W G w (H))  {y : ((List (List Int)))} (hd : D.spec_l1Empty x0 = some y) :
  Calls Tryd.prog 196 #[(.int .i64 x0)] w (Res W G H (fun G' Ho v => ∃ r0 : Value, ∃ i0 : Itm, Ho = [i0] ∧ v = (.agg #[r0]) ∧ Ow (RSl (RI .i64)) 25 G' i0 r0 y)) := by
 refine calls_b (args := [(.int .i64 x0)]) (N := 18) [.cell 2 31] Tryd.func196 rfl rfl (Nat.le_of_ble_eq_true rfl) rfl (fun a f => ?_)
 unfold D.spec_l1Empty at hd
 refine k_seq ?_
 refine k_region ?_
 refine l_alloc (cs := [(.slice none 0 0)]) Tryd.zeroValue31 m f rfl rfl (fun b_2 w a m f => ?_)
 refine l_nil ?_
 refine k_seq ?_
 refine k_region ?_
 have hb_3 : ∀ w, (Instr.build 31 #[]).run Tryd.prog w = .ok (.agg #[(.slice none 0 0)]) w := by intro w; simp [Instr.build, Instr.fill, cells_int, cells_bool, cells_string, cells_slice, cells_pointer, cells_agg]
 refine l_build f rfl rfl hb_3 (fun a f => ?_)
 refine l_alloc (cs := [(.slice none 0 0)]) Tryd.zeroValue31 m f rfl rfl (fun b_5 w a m f => ?_)
 refine l_boxStore 0 0 (ds := [(.slice none 0 0)]) m Tryd.sizeOf31 f rfl rfl rfl (ones_cons rfl ones_nil) rfl (Nat.le_of_ble_eq_true rfl) rfl (fun w m => ?_)
 have m : Mem W G w (Itm.box b_5 31 [(.slice none 0 0)] :: Itm.box b_2 31 [(.slice none 0 0)] :: H) := m
 refine l_nil ?_
 refine k_seq ?_
 refine k_seq ?_
 refine k_region ?_
 refine l_op f rfl rfl rfl (r_assign (f.eval rfl)) (fun a f => ?_)
 refine l_nil ?_
 obtain ⟨it_58, m, o_59⟩ := Ow.nil (RSl (RI .i64)) 25 m
 obtain ⟨q_52, hl_53, hd⟩ := bind_some hd
 refine k_cut (fun a w => ∃ l_88 : List (List Int), l_88 = q_52 ∧ ∃ (G_87 : GH) (v_89 : Value) (it_90 : Itm), GLe G G_87 ∧ Fr a 18 [(2, (.pointer (some ⟨b_2, 0, none⟩))), (3, (.pointer (some ⟨b_5, 0, none⟩)))] ∧ Mem W G_87 w (Itm.box b_2 31 [(.slice none 0 0)] :: Itm.box b_5 31 [v_89] :: it_90 :: H) ∧ Ow (RSl (RI .i64)) 25 G_87 it_90 v_89 l_88) ?_ ?_
 ·refine k_block ?_
  have m : Mem W G w (Itm.box b_5 31 [(.slice none 0 0)] :: it_58 :: Itm.box b_2 31 [(.slice none 0 0)] :: H) := m.front 1 rfl
  have m : Mem W G w (Itm.box b_2 31 [(.slice none 0 0)] :: Itm.box b_5 31 [(.slice none 0 0)] :: it_58 :: H) := m.front 2 rfl
  refine k_loop (fun s_56 a w => ∃ x_62 : Int, ∃ l_63 : List (List Int), (x_62, l_63) = s_56 ∧ ∃ (G_61 : GH) (v_64 : Value) (it_65 : Itm), GLe G G_61 ∧ Fr a 18 [(0, (.int .i64 x0)), (2, (.pointer (some ⟨b_2, 0, none⟩))), (3, (.pointer (some ⟨b_5, 0, none⟩))), (4, (.int .i64 x_62))] ∧ Mem W G_61 w (Itm.box b_2 31 [(.slice none 0 0)] :: Itm.box b_5 31 [v_64] :: it_65 :: H) ∧ Ow (RSl (RI .i64)) 25 G_61 it_65 v_64 l_63) hl_53 ⟨_, _, rfl, _, (.slice none 0 0), it_58, (GLe.refl _), f.weak ⟨rfl, rfl, rfl, rfl, trivial⟩, m, o_59⟩ ?_
  clear hl_53 f m
  rintro s_56 o_57 hs_54 hq_55 a w ⟨x_62, l_63, rfl, G_61, v_64, it_65, hl_68, f, m, o_66⟩
  refine k_seq ?_
  refine k_seq ?_
  refine k_region ?_
  refine l_op f rfl rfl rfl (r_move (f.eval rfl)) (fun a f => ?_)
  refine l_op f rfl rfl rfl (r_move (f.eval rfl)) (fun a f => ?_)
  refine l_op f rfl rfl rfl (r_int (f.eval rfl) (f.eval rfl) b_lss) (fun a f => ?_)
  refine l_nil ?_
  rcases cond_some hs_54 with ⟨hc_94, hs_54⟩ | ⟨hc_94, hs_54⟩
  ·refine k_true f rfl hc_94 ?_
   refine k_skip ?_
   refine k_seq ?_
   refine k_block ?_
   refine k_region ?_
   refine l_fieldAddr Tryd.underlying31 rfl Tryd.sizeOf22 (by decide) f rfl rfl (fun a f => ?_)
   refine l_boxCell 1 0 m Pl22 f rfl rfl rfl rfl (fun a f => ?_)
   refine l_slit (R := (RI .i64)) (xs := ([] : List Int)) (RI.one _) m T25 f rfl rfl rfl (by decide) (All2.nil _) (fun it_95 v_96 w a m o_97 f => ?_)
   obtain ⟨G_99, hl_100, m, h_101⟩ := Ow.stamp (RI.mono _) o_97 m
   have o_66 := Ow.mono (RSl.mono (RI.mono _)) hl_100 o_66
   have m : Mem W G_99 w (Itm.box b_2 31 [(.slice none 0 0)] :: Itm.box b_5 31 [v_64] :: it_65 :: H) := m
   refine l_slit (R := (RSl (RI .i64))) (xs := ([([] : List Int)] : List (List Int))) (RSl.one _) m T22 f rfl rfl rfl (by decide) (All2.cons h_101 (All2.nil _)) (fun it_102 v_103 w a m o_104 f => ?_)
   obtain ⟨l_106, hx_107, hs_54⟩ := bind_some hs_54
   refine l_append (RSl.one _) 3 m o_66 rfl T22 rfl (by decide) f rfl rfl rfl (Ow.src (j := 0) o_104 m rfl) hx_107 (fun it_108 v_109 w a m o_110 f => ?_)
   have m : Mem W G_99 w (it_102 :: Itm.box b_2 31 [(.slice none 0 0)] :: Itm.box b_5 31 [v_64] :: it_108 :: H) := m
   refine l_fieldAddr Tryd.underlying31 rfl Tryd.sizeOf22 (by decide) f rfl rfl (fun a f => ?_)
   refine l_boxStore 2 0 (ds := [v_109]) m Tryd.sizeOf22 f rfl rfl (Ow.cells 3 m o_110 rfl) (ones_cons (Ow.one1 3 m o_110 rfl) ones_nil) rfl (Nat.le_of_ble_eq_true rfl) rfl (fun w m => ?_)
   have m : Mem W G_99 w (it_102 :: Itm.box b_2 31 [(.slice none 0 0)] :: Itm.box b_5 31 [v_109] :: it_108 :: H) := m
   refine l_nil ?_
   refine k_region ?_
   refine l_op f rfl rfl rfl (r_move (f.eval rfl)) (fun a f => ?_)
   refine l_op f rfl rfl rfl (r_int (f.eval rfl) (f.eval rfl) b_add) (fun a f => ?_)
   refine l_op f rfl rfl rfl (r_assign (f.eval rfl)) (fun a f => ?_)
   refine l_nil ?_
   have m : Mem W G_99 w (it_108 :: it_102 :: Itm.box b_2 31 [(.slice none 0 0)] :: Itm.box b_5 31 [v_109] :: H) := m.front 3 rfl
   have m : Mem W G_99 w (Itm.box b_5 31 [v_109] :: it_108 :: it_102 :: Itm.box b_2 31 [(.slice none 0 0)] :: H) := m.front 3 rfl
   have m : Mem W G_99 w (Itm.box b_2 31 [(.slice none 0 0)] :: Itm.box b_5 31 [v_109] :: it_108 :: it_102 :: H) := m.front 3 rfl
   have m : Mem W G_99 w (Itm.box b_2 31 [(.slice none 0 0)] :: Itm.box b_5 31 [v_109] :: it_108 :: H) := m.eraseAt 3
   obtain rfl := Option.some.inj hs_54
   exact ⟨_, rfl, _, _, rfl, _, v_109, it_108, (GLe.trans hl_68 hl_100), f.weak ⟨rfl, rfl, rfl, rfl, trivial⟩, m, o_110⟩
  ·refine k_false f rfl hc_94 ?_
   refine k_exit rfl ?_
   have m : Mem W G_61 w (it_65 :: Itm.box b_2 31 [(.slice none 0 0)] :: Itm.box b_5 31 [v_64] :: H) := m.front 2 rfl
   have m : Mem W G_61 w (Itm.box b_5 31 [v_64] :: it_65 :: Itm.box b_2 31 [(.slice none 0 0)] :: H) := m.front 2 rfl
   have m : Mem W G_61 w (Itm.box b_2 31 [(.slice none 0 0)] :: Itm.box b_5 31 [v_64] :: it_65 :: H) := m.front 2 rfl
   obtain rfl := Option.some.inj hs_54
   obtain rfl := hq_55 _ rfl
   exact ⟨_, rfl, _, v_64, it_65, hl_68, f.weak ⟨rfl, rfl, trivial⟩, m, o_66⟩
 ·rintro a w ⟨l_88, rfl, G_87, v_89, it_90, hl_93, f, m, o_91⟩
  refine k_seq ?_
  refine k_region ?_
  refine l_boxAgg 1 0 (ds := [v_89]) m Ag31 f rfl rfl rfl rfl rfl (fun a f => ?_)
  refine l_boxStore 0 0 (ds := [v_89]) m Tryd.sizeOf31 f rfl rfl rfl (ones_cons (Ow.one1 2 m o_91 rfl) ones_nil) rfl (Nat.le_of_ble_eq_true rfl) rfl (fun w m => ?_)
  have m : Mem W G_87 w (Itm.box b_2 31 [v_89] :: Itm.box b_5 31 [v_89] :: it_90 :: H) := m
  refine l_nil ?_
  refine k_ret ?_
  have rc_112 := rr_agg (P := Tryd.prog) 0 m Ag31 f (s := 2) rfl rfl rfl
  have m : Mem W G_87 w (it_90 :: Itm.box b_2 31 [v_89] :: Itm.box b_5 31 [v_89] :: H) := m.front 2 rfl
  have m : Mem W G_87 w (it_90 :: Itm.box b_2 31 [v_89] :: H) := m.eraseAt 2
  have m : Mem W G_87 w (it_90 :: H) := m.eraseAt 1
  obtain rfl := Option.some.inj hd
  exact ⟨[(.agg #[v_89])], ⟨rc_112, trivial⟩, f.defers, _, [it_90], hl_93, m, _, _, rfl, rfl, o_91⟩

theorem Wk.spec_l1Link {W w : World} {G : GH} {H : List Itm} {v0_0 : Value} {it0_0 : Itm} {x0_0 : (List (List Int))} {x1 : Int} {x2 : Int} (m : Mem W G w (it0_0 :: H)) (o0_0 : Ow (RSl (RI .i64)) 25 G it0_0 v0_0 x0_0) {y : ((List (List Int)))} (hd : D.spec_l1Link x0_0 x1 x2 = some y) :
  Calls Tryd.prog 197 #[(.agg #[v0_0]), (.int .i64 x1), (.int .i64 x2)] w (Res W G H (fun G' Ho v => ∃ i0 : Itm, Ho = [i0] ∧ v = (.agg #[v0_0]) ∧ Ow (RSl (RI .i64)) 25 G' i0 v0_0 y)) := by
 refine calls_b (args := [(.agg #[v0_0]), (.int .i64 x1), (.int .i64 x2)]) (N := 30) [.cell 6 31] Tryd.func197 rfl rfl (Nat.le_of_ble_eq_true rfl) rfl (fun a f => ?_)
 unfold D.spec_l1Link at hd
 refine k_seq ?_
 refine k_region ?_
 refine l_box (cs := [v0_0]) m f rfl rfl rfl (fun b_2 w a m f => ?_)
 refine l_alloc (cs := [(.slice none 0 0)]) Tryd.zeroValue31 m f rfl rfl (fun b_4 w a m f => ?_)
 refine l_nil ?_
 refine k_seq ?_
 refine k_draw 11 Follows (by kernel_rfl) m ?_
 refine q_fieldAddr (i := 0) (listed' := #[true, false, false, false, false, false, false, false, false, false, false, false]) 11 Tryd.underlying31 rfl Tryd.sizeOf22 (by decide) rfl (by kernel_rfl) rfl f rfl rfl rfl (fun a f => ?_)
 refine q_boxCell (i := 1) (listed' := #[true, true, false, false, false, false, false, false, false, false, false, false]) 11 1 Pl22 rfl rfl rfl (by kernel_rfl) rfl f rfl rfl rfl (fun a f => ?_)
 refine q_op (i := 2) (listed' := #[true, true, true, false, false, false, false, false, false, false, false, false]) 11 rfl (by kernel_rfl) rfl f rfl rfl rfl (fun _ _ _ _ _ => r_move (f.eval rfl)) (fun a f => ?_)
 refine q_fieldAddr (i := 3) (listed' := #[true, true, true, true, false, false, false, false, false, false, false, false]) 11 Tryd.underlying31 rfl Tryd.sizeOf22 (by decide) rfl (by kernel_rfl) rfl f rfl rfl rfl (fun a f => ?_)
 refine q_boxCell (i := 4) (listed' := #[true, true, true, true, true, false, false, false, false, false, false, false]) 11 1 Pl22 rfl rfl rfl (by kernel_rfl) rfl f rfl rfl rfl (fun a f => ?_)
 refine q_op (i := 5) (listed' := #[true, true, true, true, true, true, false, false, false, false, false, false]) 11 rfl (by kernel_rfl) rfl f rfl rfl rfl (fun _ _ _ _ _ => r_move (f.eval rfl)) (fun a f => ?_)
 obtain ⟨e_5, he_6, hd⟩ := bind_some hd
 refine q_own_at (i := 6) (listed' := #[true, true, true, true, true, true, true, false, false, false, false, false]) 11 2 m o0_0 rfl T22 he_6 rfl (by kernel_rfl) rfl f rfl rfl rfl rfl (fun p_7 a ha_8 f => ?_)
 refine q_own_load (i := 7) (listed' := #[true, true, true, true, true, true, true, true, false, false, false, false]) 11 2 o0_0 rfl Pl25 ha_8 he_6 rfl (by kernel_rfl) rfl f rfl rfl rfl (fun c_9 a h_10 f => ?_)
 refine q_op (i := 8) (listed' := #[true, true, true, true, true, true, true, true, true, false, false, false]) 11 rfl (by kernel_rfl) rfl f rfl rfl rfl (fun _ _ _ _ _ => r_move (f.eval rfl)) (fun a f => ?_)
 refine q_one (i := 9) (listed' := #[true, true, true, true, true, true, true, true, true, true, false, false]) rfl (by kernel_rfl) rfl (fun G_11 w hl_12 m K_13 K_13 => ?_)
 have h_10 := RSl.mono (RI.mono _) _ _ _ _ hl_12 h_10
 have o0_0 := Ow.mono (RSl.mono (RI.mono _)) hl_12 o0_0
 have m : Mem W G_11 w (Itm.box b_4 31 [(.slice none 0 0)] :: Itm.box b_2 31 [v0_0] :: it0_0 :: H) := m
 obtain ⟨y_14, hy_15, hd⟩ := bind_some hd
 refine l_res f rfl rfl Tryd.call149 (Wk.spec_l1Into m h_10 hy_15) (fun v_19 G_16 Ho_20 w hl_17 m hQ_18 a f => ?_)
 obtain ⟨v_21, rfl, rfl, h_22⟩ := hQ_18
 have h_10 := RSl.mono (RI.mono _) _ _ _ _ hl_17 h_10
 have o0_0 := Ow.mono (RSl.mono (RI.mono _)) hl_17 o0_0
 have m : Mem W G_16 w (Itm.box b_4 31 [(.slice none 0 0)] :: Itm.box b_2 31 [v0_0] :: it0_0 :: H) := m
 refine l_nil ?_
 refine K_13 G_16 [] _ _ hl_17 m ?_
 obtain ⟨e_23, he_24, hd⟩ := bind_some hd
 refine q_own_at (i := 10) (listed' := #[true, true, true, true, true, true, true, true, true, true, true, false]) 11 2 m o0_0 rfl T22 he_24 rfl (by kernel_rfl) rfl f rfl rfl rfl rfl (fun p_25 a ha_26 f => ?_)
 refine q_end (fun G_27 w hl_28 m => ?_)
 have h_10 := RSl.mono (RI.mono _) _ _ _ _ hl_28 h_10
 have h_22 := RSl.mono (RI.mono _) _ _ _ _ hl_28 h_22
 have o0_0 := Ow.mono (RSl.mono (RI.mono _)) hl_28 o0_0
 have m : Mem W G_27 w (Itm.box b_4 31 [(.slice none 0 0)] :: Itm.box b_2 31 [v0_0] :: it0_0 :: H) := m
 refine l_own_store 2 m o0_0 rfl Tryd.sizeOf25 f rfl rfl ha_26 he_24 h_22.cells h_22.one1 h_22 (fun it_29 w m o_30 => ?_)
 have m : Mem W G_27 w (Itm.box b_4 31 [(.slice none 0 0)] :: Itm.box b_2 31 [v0_0] :: it_29 :: H) := m
 refine l_nil ?_
 refine k_seq ?_
 refine k_draw 11 Follows (by kernel_rfl) m ?_
 refine q_fieldAddr (i := 0) (listed' := #[true, false, false, false, false, false, false, false, false, false, false, false]) 11 Tryd.underlying31 rfl Tryd.sizeOf22 (by decide) rfl (by kernel_rfl) rfl f rfl rfl rfl (fun a f => ?_)
 refine q_boxCell (i := 1) (listed' := #[true, true, false, false, false, false, false, false, false, false, false, false]) 11 1 Pl22 rfl rfl rfl (by kernel_rfl) rfl f rfl rfl rfl (fun a f => ?_)
 refine q_op (i := 2) (listed' := #[true, true, true, false, false, false, false, false, false, false, false, false]) 11 rfl (by kernel_rfl) rfl f rfl rfl rfl (fun _ _ _ _ _ => r_move (f.eval rfl)) (fun a f => ?_)
 refine q_fieldAddr (i := 3) (listed' := #[true, true, true, true, false, false, false, false, false, false, false, false]) 11 Tryd.underlying31 rfl Tryd.sizeOf22 (by decide) rfl (by kernel_rfl) rfl f rfl rfl rfl (fun a f => ?_)
 refine q_boxCell (i := 4) (listed' := #[true, true, true, true, true, false, false, false, false, false, false, false]) 11 1 Pl22 rfl rfl rfl (by kernel_rfl) rfl f rfl rfl rfl (fun a f => ?_)
 refine q_op (i := 5) (listed' := #[true, true, true, true, true, true, false, false, false, false, false, false]) 11 rfl (by kernel_rfl) rfl f rfl rfl rfl (fun _ _ _ _ _ => r_move (f.eval rfl)) (fun a f => ?_)
 obtain ⟨e_31, he_32, hd⟩ := bind_some hd
 refine q_own_at (i := 6) (listed' := #[true, true, true, true, true, true, true, false, false, false, false, false]) 11 2 m o_30 rfl T22 he_32 rfl (by kernel_rfl) rfl f rfl rfl rfl rfl (fun p_33 a ha_34 f => ?_)
 refine q_own_load (i := 7) (listed' := #[true, true, true, true, true, true, true, true, false, false, false, false]) 11 2 o_30 rfl Pl25 ha_34 he_32 rfl (by kernel_rfl) rfl f rfl rfl rfl (fun c_35 a h_36 f => ?_)
 refine q_op (i := 8) (listed' := #[true, true, true, true, true, true, true, true, true, false, false, false]) 11 rfl (by kernel_rfl) rfl f rfl rfl rfl (fun _ _ _ _ _ => r_move (f.eval rfl)) (fun a f => ?_)
 refine q_one (i := 9) (listed' := #[true, true, true, true, true, true, true, true, true, true, false, false]) rfl (by kernel_rfl) rfl (fun G_37 w hl_38 m K_39 K_39 => ?_)
 have h_36 := RSl.mono (RI.mono _) _ _ _ _ hl_38 h_36
 have o_30 := Ow.mono (RSl.mono (RI.mono _)) hl_38 o_30
 have m : Mem W G_37 w (Itm.box b_4 31 [(.slice none 0 0)] :: Itm.box b_2 31 [v0_0] :: it_29 :: H) := m
 obtain ⟨y_40, hy_41, hd⟩ := bind_some hd
 refine l_res f rfl rfl Tryd.call149 (Wk.spec_l1Into m h_36 hy_41) (fun v_45 G_42 Ho_46 w hl_43 m hQ_44 a f => ?_)
 obtain ⟨v_47, rfl, rfl, h_48⟩ := hQ_44
 have h_36 := RSl.mono (RI.mono _) _ _ _ _ hl_43 h_36
 have o_30 := Ow.mono (RSl.mono (RI.mono _)) hl_43 o_30
 have m : Mem W G_42 w (Itm.box b_4 31 [(.slice none 0 0)] :: Itm.box b_2 31 [v0_0] :: it_29 :: H) := m
 refine l_nil ?_
 refine K_39 G_42 [] _ _ hl_43 m ?_
 obtain ⟨e_49, he_50, hd⟩ := bind_some hd
 refine q_own_at (i := 10) (listed' := #[true, true, true, true, true, true, true, true, true, true, true, false]) 11 2 m o_30 rfl T22 he_50 rfl (by kernel_rfl) rfl f rfl rfl rfl rfl (fun p_51 a ha_52 f => ?_)
 refine q_end (fun G_53 w hl_54 m => ?_)
 have h_36 := RSl.mono (RI.mono _) _ _ _ _ hl_54 h_36
 have h_48 := RSl.mono (RI.mono _) _ _ _ _ hl_54 h_48
 have o_30 := Ow.mono (RSl.mono (RI.mono _)) hl_54 o_30
 have m : Mem W G_53 w (Itm.box b_4 31 [(.slice none 0 0)] :: Itm.box b_2 31 [v0_0] :: it_29 :: H) := m
 refine l_own_store 2 m o_30 rfl Tryd.sizeOf25 f rfl rfl ha_52 he_50 h_48.cells h_48.one1 h_48 (fun it_55 w m o_56 => ?_)
 have m : Mem W G_53 w (Itm.box b_4 31 [(.slice none 0 0)] :: Itm.box b_2 31 [v0_0] :: it_55 :: H) := m
 refine l_nil ?_
 refine k_seq ?_
 refine k_region ?_
 refine l_boxAgg 1 0 (ds := [v0_0]) m Ag31 f rfl rfl rfl rfl rfl (fun a f => ?_)
 refine l_boxStore 0 0 (ds := [v0_0]) m Tryd.sizeOf31 f rfl rfl rfl (ones_cons (Ow.one1 2 m o_56 rfl) ones_nil) rfl (Nat.le_of_ble_eq_true rfl) rfl (fun w m => ?_)
 have m : Mem W G_53 w (Itm.box b_4 31 [v0_0] :: Itm.box b_2 31 [v0_0] :: it_55 :: H) := m
 refine l_nil ?_
 refine k_ret ?_
 have rc_57 := rr_agg (P := Tryd.prog) 0 m Ag31 f (s := 6) rfl rfl rfl
 have m : Mem W G_53 w (it_55 :: Itm.box b_4 31 [v0_0] :: Itm.box b_2 31 [v0_0] :: H) := m.front 2 rfl
 have m : Mem W G_53 w (it_55 :: Itm.box b_4 31 [v0_0] :: H) := m.eraseAt 2
 have m : Mem W G_53 w (it_55 :: H) := m.eraseAt 1
 obtain rfl := Option.some.inj hd
 exact ⟨[(.agg #[v0_0])], ⟨rc_57, trivial⟩, f.defers, _, [it_55], (GLe.trans hl_12 (GLe.trans hl_17 (GLe.trans hl_28 (GLe.trans hl_38 (GLe.trans hl_43 hl_54))))), m, _, rfl, rfl, o_56⟩

theorem Wk.spec_GraphOf {W w : World} {G : GH} {H : List Itm} {v1 : Value} {x0 : Int} {x1 : (List (List Int))} (m : Mem W G w (H)) (h1 : RSl (RSl (RI .i64)) G v1 x1) {y : ((List (List Int))) × Bool} (hd : D.spec_GraphOf x0 x1 = some y) :
  Calls Tryd.prog 104 #[(.int .i64 x0), v1] w (Res W G H (fun G' Ho v => ∃ r0 : Value, ∃ i0 : Itm, Ho = [i0] ∧ v = .tuple #[(.agg #[r0]), (.bool y.2)] ∧ Ow (RSl (RI .i64)) 25 G' i0 r0 y.1)) := by
 refine calls_b (args := [(.int .i64 x0), v1]) (N := 56) [.cell 4 31, .tmp 5] Tryd.func104 rfl rfl (Nat.le_of_ble_eq_true rfl) rfl (fun a f => ?_)
 unfold D.spec_GraphOf at hd
 refine k_seq ?_
 refine k_region ?_
 refine l_alloc (cs := [(.slice none 0 0)]) Tryd.zeroValue31 m f rfl rfl (fun b_2 w a m f => ?_)
 refine l_op f rfl rfl rfl (r_assign (f.eval rfl)) (fun a f => ?_)
 refine l_nil ?_
 refine k_seq ?_
 refine k_seq ?_
 refine k_region ?_
 refine l_op f rfl rfl rfl (r_move (f.eval rfl)) (fun a f => ?_)
 obtain ⟨y_3, hy_4, hd⟩ := bind_some hd
 refine l_res f rfl rfl Tryd.call109 (Wk.spec_l1In m  hy_4) (fun v_8 G_5 Ho_9 w hl_6 m hQ_7 a f => ?_)
 obtain ⟨rfl, rfl⟩ := hQ_7
 have h1 := RSl.mono (RSl.mono (RI.mono _)) _ _ _ _ hl_6 h1
 have m : Mem W G_5 w (Itm.box b_2 31 [(.slice none 0 0)] :: H) := m
 refine l_op f rfl rfl rfl (r_not (f.eval rfl)) (fun a f => ?_)
 refine l_op f rfl rfl rfl (r_move (f.eval rfl)) (fun a f => ?_)
 refine l_cut 4 (fun a w => ∃ G_11, GLe G_5 G_11 ∧ Mem W G_11 w (Itm.box b_2 31 [(.slice none 0 0)] :: H) ∧ Fr a 56 [(0, (.int .i64 x0)), (1, v1), (4, (.pointer (some ⟨b_2, 0, none⟩))), (8, (.int .i64 x0)), (9, (.bool y_3)), (10, (.bool (!y_3))), (11, (.bool (!y_3))), (15, (.bool ((!y_3) || (decide ((120 : Int) < (x1.length : Int))))))]) ?_ ?_
 ·rcases Bool.eq_false_or_eq_true (!y_3) with hc_10 | hc_10
  ·refine l_not' f rfl rfl rfl hc_10 (fun a f => ?_)
   refine l_not' f rfl rfl rfl hc_10 (fun a f => ?_)
   refine l_not' f rfl rfl rfl hc_10 (fun a f => ?_)
   refine l_op f rfl rfl rfl (r_pickT (f.eval rfl) hc_10 (f.eval rfl)) (fun a f => ?_)
   exact ⟨_, (GLe.refl _), m, f.weak ⟨rfl, rfl, rfl, rfl, rfl, rfl, rfl, by rw [hc_10]; rfl, trivial⟩⟩
  ·refine l_run f rfl rfl hc_10 ?_
   refine l_op f rfl rfl rfl (r_move (f.eval rfl)) (fun a f => ?_)
   refine l_run f rfl rfl hc_10 ?_
   refine l_len Tryd.underlying22 f rfl rfl h1 (fun a f => ?_)
   refine l_run f rfl rfl hc_10 ?_
   refine l_op f rfl rfl rfl (r_int (f.eval rfl) (f.eval rfl) b_gtr) (fun a f => ?_)
   refine l_op f rfl rfl rfl (r_pickF (f.eval rfl) hc_10 (f.eval rfl)) (fun a f => ?_)
   exact ⟨_, (GLe.refl _), m, f.weak ⟨rfl, rfl, rfl, rfl, rfl, rfl, rfl, by rw [hc_10]; rfl, trivial⟩⟩
 ·rintro a w ⟨G_11, hl_12, m, f⟩
  have h1 := RSl.mono (RSl.mono (RI.mono _)) _ _ _ _ hl_12 h1
  refine l_nil ?_
  rcases cond_some hd with ⟨hc_13, hd⟩ | ⟨hc_13, hd⟩
  ·refine k_true f rfl hc_13 ?_
   refine k_seq ?_
   refine k_region ?_
   have hb_14 : ∀ w, (Instr.build 31 #[]).run Tryd.prog w = .ok (.agg #[(.slice none 0 0)]) w := by intro w; simp [Instr.build, Instr.fill, cells_int, cells_bool, cells_string, cells_slice, cells_pointer, cells_agg]
   refine l_build f rfl rfl hb_14 (fun a f => ?_)
   refine l_boxStore 0 0 (ds := [(.slice none 0 0)]) m Tryd.sizeOf31 f rfl rfl rfl (ones_cons rfl ones_nil) rfl (Nat.le_of_ble_eq_true rfl) rfl (fun w m => ?_)
   have m : Mem W G_11 w (Itm.box b_2 31 [(.slice none 0 0)] :: H) := m
   refine l_op f rfl rfl rfl (r_assign (f.eval rfl)) (fun a f => ?_)
   refine l_nil ?_
   refine k_ret ?_
   obtain ⟨it_15, m, o_16⟩ := Ow.nil (RSl (RI .i64)) 25 m
   have m : Mem W G_11 w (it_15 :: Itm.box b_2 31 [(.slice none 0 0)] :: H) := m
   have rc_18 := rr_agg (P := Tryd.prog) 1 m Ag31 f (s := 4) rfl rfl rfl
   have m : Mem W G_11 w (it_15 :: H) := m.eraseAt 1
   obtain rfl := Option.some.inj hd
   exact ⟨[(.agg #[(.slice none 0 0)]), (.bool false)], ⟨rc_18, f.get _ _ rfl, trivial⟩, f.defers, _, [it_15], (GLe.trans hl_6 hl_12), m, _, _, rfl, rfl, o_16⟩
  ·refine k_false f rfl hc_13 ?_
   refine k_skip ?_
   refine k_seq ?_
   refine k_region ?_
   refine l_op f rfl rfl rfl (r_move (f.eval rfl)) (fun a f => ?_)
   obtain ⟨y_19, hy_20, hd⟩ := bind_some hd
   refine l_res f rfl rfl Tryd.call196 (Wk.spec_l1Empty m  hy_20) (fun v_24 G_21 Ho_25 w hl_22 m hQ_23 a f => ?_)
   obtain ⟨v_26, it_27, rfl, rfl, o_28⟩ := hQ_23
   have h1 := RSl.mono (RSl.mono (RI.mono _)) _ _ _ _ hl_22 h1
   have m : Mem W G_21 w (it_27 :: Itm.box b_2 31 [(.slice none 0 0)] :: H) := m
   refine l_alloc (cs := [(.slice none 0 0)]) Tryd.zeroValue31 m f rfl rfl (fun b_31 w a m f => ?_)
   refine l_boxStore 0 0 (ds := [v_26]) m Tryd.sizeOf31 f rfl rfl rfl (ones_cons (Ow.one1 1 m o_28 rfl) ones_nil) rfl (Nat.le_of_ble_eq_true rfl) rfl (fun w m => ?_)
   have m : Mem W G_21 w (Itm.box b_31 31 [v_26] :: it_27 :: Itm.box b_2 31 [(.slice none 0 0)] :: H) := m
   refine l_nil ?_
   refine k_seq ?_
   refine k_seq ?_
   refine k_region ?_
   refine l_op f rfl rfl rfl (r_assign (f.eval rfl)) (fun a f => ?_)
   refine l_nil ?_
   obtain ⟨q_213, hl_214, hd⟩ := bind_some hd
   refine k_cut (fun a w => ∃ q_213' : (List (List Int)), q_213 = .inl q_213' ∧ ∃ l_314 : List (List Int), l_314 = q_213' ∧ ∃ (G_313 : GH) (it_315 : Itm), GLe G_21 G_313 ∧ Fr a 56 [(4, (.pointer (some ⟨b_2, 0, none⟩))), (6, (.pointer (some ⟨b_31, 0, none⟩)))] ∧ Mem W G_313 w (Itm.box b_2 31 [(.slice none 0 0)] :: Itm.box b_31 31 [v_26] :: it_315 :: H) ∧ Ow (RSl (RI .i64)) 25 G_313 it_315 v_26 l_314) ?_ ?_
   ·refine k_block ?_
    have m : Mem W G_21 w (it_27 :: Itm.box b_31 31 [v_26] :: Itm.box b_2 31 [(.slice none 0 0)] :: H) := m.front 1 rfl
    have m : Mem W G_21 w (Itm.box b_31 31 [v_26] :: it_27 :: Itm.box b_2 31 [(.slice none 0 0)] :: H) := m.front 1 rfl
    have m : Mem W G_21 w (Itm.box b_2 31 [(.slice none 0 0)] :: Itm.box b_31 31 [v_26] :: it_27 :: H) := m.front 2 rfl
    refine k_loop (fun s_217 a w => ∃ x_220 : Int, ∃ l_221 : List (List Int), (x_220, l_221) = s_217 ∧ ∃ (G_219 : GH) (it_222 : Itm), GLe G_21 G_219 ∧ Fr a 56 [(0, (.int .i64 x0)), (1, v1), (4, (.pointer (some ⟨b_2, 0, none⟩))), (6, (.pointer (some ⟨b_31, 0, none⟩))), (7, (.int .i64 x_220))] ∧ Mem W G_219 w (Itm.box b_2 31 [(.slice none 0 0)] :: Itm.box b_31 31 [v_26] :: it_222 :: H) ∧ Ow (RSl (RI .i64)) 25 G_219 it_222 v_26 l_221) hl_214 ⟨_, _, rfl, _, it_27, (GLe.refl _), f.weak ⟨rfl, rfl, rfl, rfl, rfl, trivial⟩, m, o_28⟩ ?_
    clear hl_214 f m
    rintro s_217 o_218 hs_215 hq_216 a w ⟨x_220, l_221, rfl, G_219, it_222, hl_224, f, m, o_223⟩
    have h1 := RSl.mono (RSl.mono (RI.mono _)) _ _ _ _ hl_224 h1
    refine k_seq ?_
    refine k_seq ?_
    refine k_region ?_
    refine l_op f rfl rfl rfl (r_move (f.eval rfl)) (fun a f => ?_)
    refine l_op f rfl rfl rfl (r_move (f.eval rfl)) (fun a f => ?_)
    refine l_len Tryd.underlying22 f rfl rfl h1 (fun a f => ?_)
    refine l_op f rfl rfl rfl (r_int (f.eval rfl) (f.eval rfl) b_lss) (fun a f => ?_)
    refine l_nil ?_
    rcases cond_some hs_215 with ⟨hc_318, hs_215⟩ | ⟨hc_318, hs_215⟩
    ·refine k_true f rfl hc_318 ?_
     refine k_skip ?_
     refine k_seq ?_
     refine k_block ?_
     refine k_seq ?_
     refine k_seq ?_
     refine k_region ?_
     refine l_op f rfl rfl rfl (r_move (f.eval rfl)) (fun a f => ?_)
     refine l_op f rfl rfl rfl (r_move (f.eval rfl)) (fun a f => ?_)
     obtain ⟨e_319, he_320, hs_215⟩ := bind_some hs_215
     refine l_at T22 f rfl rfl rfl h1 he_320 (fun p_321 c_322 a g_323 h_324 f => ?_)
     refine l_loadAt m Pl25 f rfl rfl g_323 (fun a f => ?_)
     refine l_len Tryd.underlying25 f rfl rfl h_324 (fun a f => ?_)
     refine l_op f rfl rfl rfl (r_int (f.eval rfl) (f.eval rfl) b_neq) (fun a f => ?_)
     refine l_op f rfl rfl rfl (r_move (f.eval rfl)) (fun a f => ?_)
     obtain ⟨b_354, hj_355, hs_215⟩ := bind_some hs_215
     refine l_cut 8 (fun a w => ∃ G_352, GLe G_219 G_352 ∧ Mem W G_352 w (Itm.box b_2 31 [(.slice none 0 0)] :: Itm.box b_31 31 [v_26] :: it_222 :: H) ∧ Fr a 56 [(0, (.int .i64 x0)), (1, v1), (4, (.pointer (some ⟨b_2, 0, none⟩))), (6, (.pointer (some ⟨b_31, 0, none⟩))), (7, (.int .i64 x_220)), (22, (.bool (decide (x_220 < (x1.length : Int))))), (25, v1), (26, (.int .i64 x_220)), (27, p_321), (28, c_322), (29, (.int .i64 (e_319.length : Int))), (30, (.bool ((e_319.length : Int) != 2))), (31, (.bool ((e_319.length : Int) != 2))), (39, (.bool b_354))]) ?_ ?_
     ·rcases cond_some hj_355 with ⟨hc_325, hj_355⟩ | ⟨hc_325, hj_355⟩
      ·refine l_not' f rfl rfl rfl hc_325 (fun a f => ?_)
       refine l_not' f rfl rfl rfl hc_325 (fun a f => ?_)
       refine l_not' f rfl rfl rfl hc_325 (fun a f => ?_)
       refine l_not' f rfl rfl rfl hc_325 (fun a f => ?_)
       refine l_not' f rfl rfl rfl hc_325 (fun a f => ?_)
       refine l_not' f rfl rfl rfl hc_325 (fun a f => ?_)
       refine l_not' f rfl rfl rfl hc_325 (fun a f => ?_)
       refine l_op f rfl rfl rfl (r_pickT (f.eval rfl) hc_325 (f.eval rfl)) (fun a f => ?_)
       obtain rfl := Option.some.inj hj_355
       have m : Mem W G_219 w (it_222 :: Itm.box b_2 31 [(.slice none 0 0)] :: Itm.box b_31 31 [v_26] :: H) := m.front 2 rfl
       have m : Mem W G_219 w (Itm.box b_31 31 [v_26] :: it_222 :: Itm.box b_2 31 [(.slice none 0 0)] :: H) := m.front 2 rfl
       have m : Mem W G_219 w (Itm.box b_2 31 [(.slice none 0 0)] :: Itm.box b_31 31 [v_26] :: it_222 :: H) := m.front 2 rfl
       exact ⟨_, (GLe.refl _), m, f.weak ⟨rfl, rfl, rfl, rfl, rfl, rfl, rfl, rfl, rfl, rfl, rfl, rfl, rfl, rfl, trivial⟩⟩
      ·refine l_run f rfl rfl hc_325 ?_
       refine l_op f rfl rfl rfl (r_move (f.eval rfl)) (fun a f => ?_)
       refine l_run f rfl rfl hc_325 ?_
       refine l_op f rfl rfl rfl (r_move (f.eval rfl)) (fun a f => ?_)
       refine l_run f rfl rfl hc_325 ?_
       obtain ⟨e_356, he_357, hj_355⟩ := bind_some hj_355
       refine l_at T22 f rfl rfl rfl h1 he_357 (fun p_358 c_359 a g_360 h_361 f => ?_)
       refine l_run f rfl rfl hc_325 ?_
       refine l_loadAt m Pl25 f rfl rfl g_360 (fun a f => ?_)
       refine l_run f rfl rfl hc_325 ?_
       refine l_op f rfl rfl rfl (r_move (f.eval rfl)) (fun a f => ?_)
       refine l_run f rfl rfl hc_325 ?_
       obtain ⟨y_362, hy_363, hj_355⟩ := bind_some hj_355
       refine l_res f rfl rfl Tryd.call110 (Wk.spec_l1Set m h_361 hy_363) (fun v_367 G_364 Ho_368 w hl_365 m hQ_366 a f => ?_)
       obtain ⟨rfl, rfl⟩ := hQ_366
       have h1 := RSl.mono (RSl.mono (RI.mono _)) _ _ _ _ hl_365 h1
       have g_323 := At.mono hl_365 g_323
       have h_324 := RSl.mono (RI.mono _) _ _ _ _ hl_365 h_324
       have g_360 := At.mono hl_365 g_360
       have h_361 := RSl.mono (RI.mono _) _ _ _ _ hl_365 h_361
       have o_223 := Ow.mono (RSl.mono (RI.mono _)) hl_365 o_223
       have m : Mem W G_364 w (Itm.box b_2 31 [(.slice none 0 0)] :: Itm.box b_31 31 [v_26] :: it_222 :: H) := m
       refine l_run f rfl rfl hc_325 ?_
       refine l_op f rfl rfl rfl (r_not (f.eval rfl)) (fun a f => ?_)
       refine l_op f rfl rfl rfl (r_pickF (f.eval rfl) hc_325 (f.eval rfl)) (fun a f => ?_)
       obtain rfl := Option.some.inj hj_355
       have m : Mem W G_364 w (it_222 :: Itm.box b_2 31 [(.slice none 0 0)] :: Itm.box b_31 31 [v_26] :: H) := m.front 2 rfl
       have m : Mem W G_364 w (Itm.box b_31 31 [v_26] :: it_222 :: Itm.box b_2 31 [(.slice none 0 0)] :: H) := m.front 2 rfl
       have m : Mem W G_364 w (Itm.box b_2 31 [(.slice none 0 0)] :: Itm.box b_31 31 [v_26] :: it_222 :: H) := m.front 2 rfl
       exact ⟨_, hl_365, m, f.weak ⟨rfl, rfl, rfl, rfl, rfl, rfl, rfl, rfl, rfl, rfl, rfl, rfl, rfl, rfl, trivial⟩⟩
     ·rintro a w ⟨G_352, hl_353, m, f⟩
      have h1 := RSl.mono (RSl.mono (RI.mono _)) _ _ _ _ hl_353 h1
      have g_323 := At.mono hl_353 g_323
      have h_324 := RSl.mono (RI.mono _) _ _ _ _ hl_353 h_324
      have o_223 := Ow.mono (RSl.mono (RI.mono _)) hl_353 o_223
      refine l_nil ?_
      rcases cond_some hs_215 with ⟨hc_369, hs_215⟩ | ⟨hc_369, hs_215⟩
      ·refine k_true f rfl hc_369 ?_
       refine k_seq ?_
       refine k_region ?_
       have hb_370 : ∀ w, (Instr.build 31 #[]).run Tryd.prog w = .ok (.agg #[(.slice none 0 0)]) w := by intro w; simp [Instr.build, Instr.fill, cells_int, cells_bool, cells_string, cells_slice, cells_pointer, cells_agg]
       refine l_build f rfl rfl hb_370 (fun a f => ?_)
       refine l_boxStore 0 0 (ds := [(.slice none 0 0)]) m Tryd.sizeOf31 f rfl rfl rfl (ones_cons rfl ones_nil) rfl (Nat.le_of_ble_eq_true rfl) rfl (fun w m => ?_)
       have m : Mem W G_352 w (Itm.box b_2 31 [(.slice none 0 0)] :: Itm.box b_31 31 [v_26] :: it_222 :: H) := m
       refine l_op f rfl rfl rfl (r_assign (f.eval rfl)) (fun a f => ?_)
       refine l_nil ?_
       refine k_ret ?_
       obtain ⟨it_371, m, o_372⟩ := Ow.nil (RSl (RI .i64)) 25 m
       have m : Mem W G_352 w (it_371 :: Itm.box b_2 31 [(.slice none 0 0)] :: Itm.box b_31 31 [v_26] :: it_222 :: H) := m
       have rc_374 := rr_agg (P := Tryd.prog) 1 m Ag31 f (s := 4) rfl rfl rfl
       have m : Mem W G_352 w (it_371 :: Itm.box b_2 31 [(.slice none 0 0)] :: Itm.box b_31 31 [v_26] :: H) := m.eraseAt 3
       have m : Mem W G_352 w (it_371 :: Itm.box b_2 31 [(.slice none 0 0)] :: H) := m.eraseAt 2
       have m : Mem W G_352 w (it_371 :: H) := m.eraseAt 1
       obtain rfl := Option.some.inj hs_215
       obtain rfl := hq_216 _ rfl
       obtain rfl := Option.some.inj hd
       exact ⟨[(.agg #[(.slice none 0 0)]), (.bool false)], ⟨rc_374, f.get _ _ rfl, trivial⟩, f.defers, _, [it_371], (GLe.trans hl_6 (GLe.trans hl_12 (GLe.trans hl_22 (GLe.trans hl_224 hl_353)))), m, _, _, rfl, rfl, o_372⟩
      ·refine k_false f rfl hc_369 ?_
       refine k_skip ?_
       refine k_draw 13 Follows (by kernel_rfl) m ?_
       refine q_boxAgg (i := 0) (listed' := #[true, false, false, false, false, false, false, false, false, false, false, false, false, false, false]) (ds := [v_26]) 13 1 Ag31 rfl rfl rfl rfl (by kernel_rfl) rfl f rfl rfl rfl (fun a f => ?_)
       refine q_op (i := 1) (listed' := #[true, true, false, false, false, false, false, false, false, false, false, false, false, false, false]) 13 rfl (by kernel_rfl) rfl f rfl rfl rfl (fun _ _ _ _ _ => r_move (f.eval rfl)) (fun a f => ?_)
       refine q_op (i := 2) (listed' := #[true, true, true, false, false, false, false, false, false, false, false, false, false, false, false]) 13 rfl (by kernel_rfl) rfl f rfl rfl rfl (fun _ _ _ _ _ => r_move (f.eval rfl)) (fun a f => ?_)
       obtain ⟨e_375, he_376, hs_215⟩ := bind_some hs_215
       refine q_at (i := 3) (listed' := #[true, true, true, true, false, false, false, false, false, false, false, false, false, false, false]) 13 T22 h1 he_376 rfl (by kernel_rfl) rfl f rfl rfl rfl rfl (fun p_377 c_378 a g_379 h_380 f => ?_)
       refine q_loadAt (i := 4) (listed' := #[true, true, true, true, true, false, false, false, false, false, false, false, false, false, false]) 13 Pl25 g_379 rfl (by kernel_rfl) rfl f rfl rfl rfl (fun a f => ?_)
       obtain ⟨e_381, he_382, hs_215⟩ := bind_some hs_215
       refine q_at (i := 5) (listed' := #[true, true, true, true, true, true, false, false, false, false, false, false, false, false, false]) 13 T25 h_380 he_382 rfl (by kernel_rfl) rfl f rfl rfl rfl rfl (fun p_383 c_384 a g_385 h_386 f => ?_)
       subst h_386
       refine q_loadAt (i := 6) (listed' := #[true, true, true, true, true, true, true, false, false, false, false, false, false, false, false]) 13 Pl2 g_385 rfl (by kernel_rfl) rfl f rfl rfl rfl (fun a f => ?_)
       refine q_op (i := 7) (listed' := #[true, true, true, true, true, true, true, true, false, false, false, false, false, false, false]) 13 rfl (by kernel_rfl) rfl f rfl rfl rfl (fun _ _ _ _ _ => r_move (f.eval rfl)) (fun a f => ?_)
       refine q_op (i := 8) (listed' := #[true, true, true, true, true, true, true, true, true, false, false, false, false, false, false]) 13 rfl (by kernel_rfl) rfl f rfl rfl rfl (fun _ _ _ _ _ => r_move (f.eval rfl)) (fun a f => ?_)
       obtain ⟨e_387, he_388, hs_215⟩ := bind_some hs_215
       refine q_at (i := 9) (listed' := #[true, true, true, true, true, true, true, true, true, true, false, false, false, false, false]) 13 T22 h1 he_388 rfl (by kernel_rfl) rfl f rfl rfl rfl rfl (fun p_389 c_390 a g_391 h_392 f => ?_)
       refine q_loadAt (i := 10) (listed' := #[true, true, true, true, true, true, true, true, true, true, true, false, false, false, false]) 13 Pl25 g_391 rfl (by kernel_rfl) rfl f rfl rfl rfl (fun a f => ?_)
       obtain ⟨e_393, he_394, hs_215⟩ := bind_some hs_215
       refine q_at (i := 11) (listed' := #[true, true, true, true, true, true, true, true, true, true, true, true, false, false, false]) 13 T25 h_392 he_394 rfl (by kernel_rfl) rfl f rfl rfl rfl rfl (fun p_395 c_396 a g_397 h_398 f => ?_)
       subst h_398
       refine q_loadAt (i := 12) (listed' := #[true, true, true, true, true, true, true, true, true, true, true, true, true, false, false]) 13 Pl2 g_397 rfl (by kernel_rfl) rfl f rfl rfl rfl (fun a f => ?_)
       refine q_end (fun G_399 w hl_400 m => ?_)
       have h1 := RSl.mono (RSl.mono (RI.mono _)) _ _ _ _ hl_400 h1
       have g_379 := At.mono hl_400 g_379
       have h_380 := RSl.mono (RI.mono _) _ _ _ _ hl_400 h_380
       have g_385 := At.mono hl_400 g_385
       have g_391 := At.mono hl_400 g_391
       have h_392 := RSl.mono (RI.mono _) _ _ _ _ hl_400 h_392
       have g_397 := At.mono hl_400 g_397
       have o_223 := Ow.mono (RSl.mono (RI.mono _)) hl_400 o_223
       have m : Mem W G_399 w (Itm.box b_2 31 [(.slice none 0 0)] :: Itm.box b_31 31 [v_26] :: it_222 :: H) := m
       have m : Mem W G_399 w (it_222 :: Itm.box b_2 31 [(.slice none 0 0)] :: Itm.box b_31 31 [v_26] :: H) := m.front 2 rfl
       obtain ⟨y_401, hy_402, hs_215⟩ := bind_some hs_215
       refine l_res f rfl rfl Tryd.call197 (Wk.spec_l1Link m o_223 hy_402) (fun v_406 G_403 Ho_407 w hl_404 m hQ_405 a f => ?_)
       obtain ⟨it_408, rfl, rfl, o_409⟩ := hQ_405
       have h1 := RSl.mono (RSl.mono (RI.mono _)) _ _ _ _ hl_404 h1
       have g_379 := At.mono hl_404 g_379
       have h_380 := RSl.mono (RI.mono _) _ _ _ _ hl_404 h_380
       have g_385 := At.mono hl_404 g_385
       have g_391 := At.mono hl_404 g_391
       have h_392 := RSl.mono (RI.mono _) _ _ _ _ hl_404 h_392
       have g_397 := At.mono hl_404 g_397
       have m : Mem W G_403 w (it_408 :: Itm.box b_2 31 [(.slice none 0 0)] :: Itm.box b_31 31 [v_26] :: H) := m
       refine l_boxStore 2 0 (ds := [v_26]) m Tryd.sizeOf31 f rfl rfl rfl (ones_cons (Ow.one1 0 m o_409 rfl) ones_nil) rfl (Nat.le_of_ble_eq_true rfl) rfl (fun w m => ?_)
       have m : Mem W G_403 w (it_408 :: Itm.box b_2 31 [(.slice none 0 0)] :: Itm.box b_31 31 [v_26] :: H) := m
       refine l_nil ?_
       refine k_region ?_
       refine l_op f rfl rfl rfl (r_move (f.eval rfl)) (fun a f => ?_)
       refine l_op f rfl rfl rfl (r_int (f.eval rfl) (f.eval rfl) b_add) (fun a f => ?_)
       refine l_op f rfl rfl rfl (r_assign (f.eval rfl)) (fun a f => ?_)
       refine l_nil ?_
       have m : Mem W G_403 w (Itm.box b_31 31 [v_26] :: it_408 :: Itm.box b_2 31 [(.slice none 0 0)] :: H) := m.front 2 rfl
       have m : Mem W G_403 w (Itm.box b_2 31 [(.slice none 0 0)] :: Itm.box b_31 31 [v_26] :: it_408 :: H) := m.front 2 rfl
       obtain rfl := Option.some.inj hs_215
       exact ⟨_, rfl, _, _, rfl, _, it_408, (GLe.trans hl_224 (GLe.trans hl_353 (GLe.trans hl_400 hl_404))), f.weak ⟨rfl, rfl, rfl, rfl, rfl, trivial⟩, m, o_409⟩
    ·refine k_false f rfl hc_318 ?_
     refine k_exit rfl ?_
     have m : Mem W G_219 w (it_222 :: Itm.box b_2 31 [(.slice none 0 0)] :: Itm.box b_31 31 [v_26] :: H) := m.front 2 rfl
     have m : Mem W G_219 w (Itm.box b_31 31 [v_26] :: it_222 :: Itm.box b_2 31 [(.slice none 0 0)] :: H) := m.front 2 rfl
     have m : Mem W G_219 w (Itm.box b_2 31 [(.slice none 0 0)] :: Itm.box b_31 31 [v_26] :: it_222 :: H) := m.front 2 rfl
     obtain rfl := Option.some.inj hs_215
     obtain rfl := hq_216 _ rfl
     exact ⟨_, rfl, _, rfl, _, it_222, hl_224, f.weak ⟨rfl, rfl, trivial⟩, m, o_223⟩
   ·rintro a w ⟨_, rfl, l_314, rfl, G_313, it_315, hl_317, f, m, o_316⟩
    refine k_seq ?_
    refine k_region ?_
    refine l_boxAgg 1 0 (ds := [v_26]) m Ag31 f rfl rfl rfl rfl rfl (fun a f => ?_)
    refine l_boxStore 0 0 (ds := [v_26]) m Tryd.sizeOf31 f rfl rfl rfl (ones_cons (Ow.one1 2 m o_316 rfl) ones_nil) rfl (Nat.le_of_ble_eq_true rfl) rfl (fun w m => ?_)
    have m : Mem W G_313 w (Itm.box b_2 31 [v_26] :: Itm.box b_31 31 [v_26] :: it_315 :: H) := m
    refine l_op f rfl rfl rfl (r_assign (f.eval rfl)) (fun a f => ?_)
    refine l_nil ?_
    refine k_ret ?_
    have rc_410 := rr_agg (P := Tryd.prog) 0 m Ag31 f (s := 4) rfl rfl rfl
    have m : Mem W G_313 w (it_315 :: Itm.box b_2 31 [v_26] :: Itm.box b_31 31 [v_26] :: H) := m.front 2 rfl
    have m : Mem W G_313 w (it_315 :: Itm.box b_2 31 [v_26] :: H) := m.eraseAt 2
    have m : Mem W G_313 w (it_315 :: H) := m.eraseAt 1
    obtain rfl := Option.some.inj hd
    exact ⟨[(.agg #[v_26]), (.bool true)], ⟨rc_410, f.get _ _ rfl, trivial⟩, f.defers, _, [it_315], (GLe.trans hl_6 (GLe.trans hl_12 (GLe.trans hl_22 hl_317))), m, _, _, rfl, rfl, o_316⟩

theorem Wk.laws_w9Graph {W w : World} {G : GH} {H : List Itm} {v0_0 : Value} {b0 : Nat} {x0_0 : (List Int)} {x0_1 : Int} {x0_2 : Int} {x1 : Int} (m : Mem W G w (Itm.box b0 110 [v0_0, (.int .i64 x0_1), (.int .u64 x0_2)] :: H)) (h0_0 : RSl (RI .u8) G v0_0 x0_0) {y : ((List (List Int))) × ((List Int)) × Int × Int} (hd : D.laws_w9Graph x0_0 x0_1 x0_2 x1 = some y) :
  Calls Tryd.prog 68 #[(.pointer (some ⟨b0, 0, none⟩)), (.int .i64 x1)] w (Res W G H (fun G' Ho v => ∃ r0 : Value, ∃ i0 : Itm, ∃ r2 : Value, Ho = [i0, Itm.box b0 110 [r2, (.int .i64 y.2.2.1), (.int .u64 y.2.2.2)]] ∧ v = (.agg #[r0]) ∧ Ow (RSl (RI .i64)) 25 G' i0 r0 y.1 ∧ RSl (RI .u8) G' r2 y.2.1)) := by
 refine calls_b (args := [(.pointer (some ⟨b0, 0, none⟩)), (.int .i64 x1)]) (N := 47) [.cell 4 31] Tryd.func68 rfl rfl (Nat.le_of_ble_eq_true rfl) rfl (fun a f => ?_)
 unfold D.laws_w9Graph at hd
 refine k_seq ?_
 refine k_region ?_
 refine l_alloc (cs := [(.slice none 0 0)]) Tryd.zeroValue31 m f rfl rfl (fun b_2 w a m f => ?_)
 refine l_nil ?_
 refine k_seq ?_
 refine k_region ?_
 refine l_op f rfl rfl rfl (r_move (f.eval rfl)) (fun a f => ?_)
 refine l_op f rfl rfl rfl (r_move (f.eval rfl)) (fun a f => ?_)
 have m : Mem W G w (Itm.box b0 110 [v0_0, (.int .i64 x0_1), (.int .u64 x0_2)] :: Itm.box b_2 31 [(.slice none 0 0)] :: H) := m.front 1 rfl
 obtain ⟨y_3, hy_4, hd⟩ := bind_some hd
 refine l_res f rfl rfl Tryd.call60 (Wk.laws_dice_below m h0_0 hy_4) (fun v_8 G_5 Ho_9 w hl_6 m hQ_7 a f => ?_)
 obtain ⟨v_10, rfl, rfl, h_11⟩ := hQ_7
 have m : Mem W G_5 w (Itm.box b0 110 [v_10, (.int .i64 y_3.2.2.1), (.int .u64 y_3.2.2.2)] :: Itm.box b_2 31 [(.slice none 0 0)] :: H) := m
 refine l_op f rfl rfl rfl (r_int (f.eval rfl) (f.eval rfl) b_add) (fun a f => ?_)
 refine l_op f rfl rfl rfl (r_assign (f.eval rfl)) (fun a f => ?_)
 refine l_nil ?_
 refine k_seq ?_
 refine k_region ?_
 refine l_op f rfl rfl rfl (r_move (f.eval rfl)) (fun a f => ?_)
 obtain ⟨y_12, hy_13, hd⟩ := bind_some hd
 refine l_res f rfl rfl Tryd.call60 (Wk.laws_dice_below m h_11 hy_13) (fun v_17 G_14 Ho_18 w hl_15 m hQ_16 a f => ?_)
 obtain ⟨v_19, rfl, rfl, h_20⟩ := hQ_16
 have m : Mem W G_14 w (Itm.box b0 110 [v_19, (.int .i64 y_12.2.2.1), (.int .u64 y_12.2.2.2)] :: Itm.box b_2 31 [(.slice none 0 0)] :: H) := m
 refine l_op f rfl rfl rfl (r_int (f.eval rfl) (f.eval rfl) b_add) (fun a f => ?_)
 refine l_op f rfl rfl rfl (r_assign (f.eval rfl)) (fun a f => ?_)
 refine l_nil ?_
 refine k_seq ?_
 refine k_region ?_
 refine l_slit (R := (RSl (RI .i64))) (xs := ([] : List (List Int))) (RSl.one _) m T22 f rfl rfl rfl (by decide) (All2.nil _) (fun it_21 v_22 w a m o_23 f => ?_)
 refine l_op f rfl rfl rfl (r_assign (f.eval rfl)) (fun a f => ?_)
 refine l_nil ?_
 refine k_seq ?_
 refine k_seq ?_
 refine k_region ?_
 refine l_op f rfl rfl rfl (r_assign (f.eval rfl)) (fun a f => ?_)
 refine l_nil ?_
 obtain ⟨q_349, hl_350, hd⟩ := bind_some hd
 refine k_cut (fun a w => ∃ l_525 : List (List Int), ∃ l_530 : List Int, ∃ x_533 : Int, ∃ x_534 : Int, (l_525, l_530, x_533, x_534) = q_349 ∧ ∃ (G_524 : GH) (v_526 : Value) (it_527 : Itm) (v_531 : Value), GLe G_14 G_524 ∧ Fr a 47 [(4, (.pointer (some ⟨b_2, 0, none⟩))), (5, (.int .i64 (IntKind.i64.wrap (1 + y_3.1)))), (7, v_526)] ∧ Mem W G_524 w (Itm.box b_2 31 [(.slice none 0 0)] :: Itm.box b0 110 [v_531, (.int .i64 x_533), (.int .u64 x_534)] :: it_527 :: H) ∧ Ow (RSl (RI .i64)) 25 G_524 it_527 v_526 l_525 ∧ RSl (RI .u8) G_524 v_531 l_530) ?_ ?_
 ·refine k_block ?_
  have m : Mem W G_14 w (Itm.box b_2 31 [(.slice none 0 0)] :: it_21 :: Itm.box b0 110 [v_19, (.int .i64 y_12.2.2.1), (.int .u64 y_12.2.2.2)] :: H) := m.front 2 rfl
  have m : Mem W G_14 w (Itm.box b0 110 [v_19, (.int .i64 y_12.2.2.1), (.int .u64 y_12.2.2.2)] :: Itm.box b_2 31 [(.slice none 0 0)] :: it_21 :: H) := m.front 2 rfl
  refine k_loop (fun s_353 a w => ∃ l_356 : List (List Int), ∃ x_361 : Int, ∃ l_362 : List Int, ∃ x_365 : Int, ∃ x_366 : Int, (l_356, x_361, l_362, x_365, x_366) = s_353 ∧ ∃ (G_355 : GH) (v_357 : Value) (it_358 : Itm) (v_363 : Value), GLe G_14 G_355 ∧ Fr a 47 [(0, (.pointer (some ⟨b0, 0, none⟩))), (4, (.pointer (some ⟨b_2, 0, none⟩))), (5, (.int .i64 (IntKind.i64.wrap (1 + y_3.1)))), (6, (.int .i64 (IntKind.i64.wrap (1 + y_12.1)))), (7, v_357), (8, (.int .i64 x_361))] ∧ Mem W G_355 w (Itm.box b0 110 [v_363, (.int .i64 x_365), (.int .u64 x_366)] :: Itm.box b_2 31 [(.slice none 0 0)] :: it_358 :: H) ∧ Ow (RSl (RI .i64)) 25 G_355 it_358 v_357 l_356 ∧ RSl (RI .u8) G_355 v_363 l_362) hl_350 ⟨_, _, _, _, _, rfl, _, v_22, it_21, v_19, (GLe.refl _), f.weak ⟨rfl, rfl, rfl, rfl, rfl, rfl, trivial⟩, m, o_23, h_20⟩ ?_
  clear hl_350 f m
  rintro s_353 o_354 hs_351 hq_352 a w ⟨l_356, x_361, l_362, x_365, x_366, rfl, G_355, v_357, it_358, v_363, hl_367, f, m, o_359, h_364⟩
  refine k_seq ?_
  refine k_seq ?_
  refine k_region ?_
  refine l_op f rfl rfl rfl (r_move (f.eval rfl)) (fun a f => ?_)
  refine l_op f rfl rfl rfl (r_move (f.eval rfl)) (fun a f => ?_)
  refine l_op f rfl rfl rfl (r_int (f.eval rfl) (f.eval rfl) b_lss) (fun a f => ?_)
  refine l_nil ?_
  rcases cond_some hs_351 with ⟨hc_536, hs_351⟩ | ⟨hc_536, hs_351⟩
  ·refine k_true f rfl hc_536 ?_
   refine k_skip ?_
   refine k_seq ?_
   refine k_block ?_
   refine k_seq ?_
   refine k_region ?_
   refine l_op f rfl rfl rfl (r_assign (f.eval rfl)) (fun a f => ?_)
   refine l_nil ?_
   obtain ⟨q_605, hl_606, hs_351⟩ := bind_some hs_351
   refine k_cut (fun a w => ∃ l_653 : List (List Int), ∃ l_658 : List Int, ∃ x_661 : Int, ∃ x_662 : Int, (l_653, l_658, x_661, x_662) = q_605 ∧ ∃ (G_652 : GH) (v_654 : Value) (it_655 : Itm) (v_659 : Value), GLe G_355 G_652 ∧ Fr a 47 [(0, (.pointer (some ⟨b0, 0, none⟩))), (4, (.pointer (some ⟨b_2, 0, none⟩))), (5, (.int .i64 (IntKind.i64.wrap (1 + y_3.1)))), (6, (.int .i64 (IntKind.i64.wrap (1 + y_12.1)))), (7, v_654), (8, (.int .i64 x_361))] ∧ Mem W G_652 w (Itm.box b0 110 [v_659, (.int .i64 x_661), (.int .u64 x_662)] :: Itm.box b_2 31 [(.slice none 0 0)] :: it_655 :: H) ∧ Ow (RSl (RI .i64)) 25 G_652 it_655 v_654 l_653 ∧ RSl (RI .u8) G_652 v_659 l_658) ?_ ?_
   ·refine k_block ?_
    have m : Mem W G_355 w (it_358 :: Itm.box b0 110 [v_363, (.int .i64 x_365), (.int .u64 x_366)] :: Itm.box b_2 31 [(.slice none 0 0)] :: H) := m.front 2 rfl
    have m : Mem W G_355 w (Itm.box b_2 31 [(.slice none 0 0)] :: it_358 :: Itm.box b0 110 [v_363, (.int .i64 x_365), (.int .u64 x_366)] :: H) := m.front 2 rfl
    have m : Mem W G_355 w (Itm.box b0 110 [v_363, (.int .i64 x_365), (.int .u64 x_366)] :: Itm.box b_2 31 [(.slice none 0 0)] :: it_358 :: H) := m.front 2 rfl
    refine k_loop (fun s_609 a w => ∃ l_612 : List (List Int), ∃ x_617 : Int, ∃ l_618 : List Int, ∃ x_621 : Int, ∃ x_622 : Int, (l_612, x_617, l_618, x_621, x_622) = s_609 ∧ ∃ (G_611 : GH) (v_613 : Value) (it_614 : Itm) (v_619 : Value), GLe G_355 G_611 ∧ Fr a 47 [(0, (.pointer (some ⟨b0, 0, none⟩))), (4, (.pointer (some ⟨b_2, 0, none⟩))), (5, (.int .i64 (IntKind.i64.wrap (1 + y_3.1)))), (6, (.int .i64 (IntKind.i64.wrap (1 + y_12.1)))), (7, v_613), (8, (.int .i64 x_361)), (9, (.int .i64 x_617))] ∧ Mem W G_611 w (Itm.box b0 110 [v_619, (.int .i64 x_621), (.int .u64 x_622)] :: Itm.box b_2 31 [(.slice none 0 0)] :: it_614 :: H) ∧ Ow (RSl (RI .i64)) 25 G_611 it_614 v_613 l_612 ∧ RSl (RI .u8) G_611 v_619 l_618) hl_606 ⟨_, _, _, _, _, rfl, _, v_357, it_358, v_363, (GLe.refl _), f.weak ⟨rfl, rfl, rfl, rfl, rfl, rfl, rfl, trivial⟩, m, o_359, h_364⟩ ?_
    clear hl_606 f m
    rintro s_609 o_610 hs_607 hq_608 a w ⟨l_612, x_617, l_618, x_621, x_622, rfl, G_611, v_613, it_614, v_619, hl_623, f, m, o_615, h_620⟩
    refine k_seq ?_
    refine k_seq ?_
    refine k_region ?_
    refine l_op f rfl rfl rfl (r_move (f.eval rfl)) (fun a f => ?_)
    refine l_op f rfl rfl rfl (r_move (f.eval rfl)) (fun a f => ?_)
    refine l_op f rfl rfl rfl (r_int (f.eval rfl) (f.eval rfl) b_lss) (fun a f => ?_)
    refine l_nil ?_
    rcases cond_some hs_607 with ⟨hc_664, hs_607⟩ | ⟨hc_664, hs_607⟩
    ·refine k_true f rfl hc_664 ?_
     refine k_skip ?_
     refine k_seq ?_
     refine k_block ?_
     refine k_seq ?_
     refine k_region ?_
     refine l_op f rfl rfl rfl (r_move (f.eval rfl)) (fun a f => ?_)
     obtain ⟨y_665, hy_666, hs_607⟩ := bind_some hs_607
     refine l_res f rfl rfl Tryd.call60 (Wk.laws_dice_below m h_620 hy_666) (fun v_670 G_667 Ho_671 w hl_668 m hQ_669 a f => ?_)
     obtain ⟨v_672, rfl, rfl, h_673⟩ := hQ_669
     have o_615 := Ow.mono (RSl.mono (RI.mono _)) hl_668 o_615
     have m : Mem W G_667 w (Itm.box b0 110 [v_672, (.int .i64 y_665.2.2.1), (.int .u64 y_665.2.2.2)] :: Itm.box b_2 31 [(.slice none 0 0)] :: it_614 :: H) := m
     refine l_op f rfl rfl rfl (r_move (f.eval rfl)) (fun a f => ?_)
     refine l_op f rfl rfl rfl (r_int (f.eval rfl) (f.eval rfl) b_lss) (fun a f => ?_)
     refine l_nil ?_
     rcases cond_some hs_607 with ⟨hc_674, hs_607⟩ | ⟨hc_674, hs_607⟩
     ·refine k_true f rfl hc_674 ?_
      refine k_region ?_
      refine l_op f rfl rfl rfl (r_move (f.eval rfl)) (fun a f => ?_)
      refine l_op f rfl rfl rfl (r_move (f.eval rfl)) (fun a f => ?_)
      refine l_op f rfl rfl rfl (r_move (f.eval rfl)) (fun a f => ?_)
      refine l_slit (R := (RI .i64)) (xs := ([x_617, x_361] : List Int)) (RI.one _) m T25 f rfl rfl rfl (by decide) (All2.cons rfl (All2.cons rfl (All2.nil _))) (fun it_675 v_676 w a m o_677 f => ?_)
      obtain ⟨G_679, hl_680, m, h_681⟩ := Ow.stamp (RI.mono _) o_677 m
      have h_673 := RSl.mono (RI.mono _) _ _ _ _ hl_680 h_673
      have o_615 := Ow.mono (RSl.mono (RI.mono _)) hl_680 o_615
      have m : Mem W G_679 w (Itm.box b0 110 [v_672, (.int .i64 y_665.2.2.1), (.int .u64 y_665.2.2.2)] :: Itm.box b_2 31 [(.slice none 0 0)] :: it_614 :: H) := m
      refine l_slit (R := (RSl (RI .i64))) (xs := ([([x_617, x_361] : List Int)] : List (List Int))) (RSl.one _) m T22 f rfl rfl rfl (by decide) (All2.cons h_681 (All2.nil _)) (fun it_682 v_683 w a m o_684 f => ?_)
      obtain ⟨l_686, hx_687, hs_607⟩ := bind_some hs_607
      refine l_append (RSl.one _) 3 m o_615 rfl T22 rfl (by decide) f rfl rfl rfl (Ow.src (j := 0) o_684 m rfl) hx_687 (fun it_688 v_689 w a m o_690 f => ?_)
      have m : Mem W G_679 w (it_682 :: Itm.box b0 110 [v_672, (.int .i64 y_665.2.2.1), (.int .u64 y_665.2.2.2)] :: Itm.box b_2 31 [(.slice none 0 0)] :: it_688 :: H) := m
      refine l_op f rfl rfl rfl (r_assign (f.eval rfl)) (fun a f => ?_)
      refine l_nil ?_
      refine k_region ?_
      refine l_op f rfl rfl rfl (r_move (f.eval rfl)) (fun a f => ?_)
      refine l_op f rfl rfl rfl (r_int (f.eval rfl) (f.eval rfl) b_add) (fun a f => ?_)
      refine l_op f rfl rfl rfl (r_assign (f.eval rfl)) (fun a f => ?_)
      refine l_nil ?_
      have m : Mem W G_679 w (it_688 :: it_682 :: Itm.box b0 110 [v_672, (.int .i64 y_665.2.2.1), (.int .u64 y_665.2.2.2)] :: Itm.box b_2 31 [(.slice none 0 0)] :: H) := m.front 3 rfl
      have m : Mem W G_679 w (Itm.box b_2 31 [(.slice none 0 0)] :: it_688 :: it_682 :: Itm.box b0 110 [v_672, (.int .i64 y_665.2.2.1), (.int .u64 y_665.2.2.2)] :: H) := m.front 3 rfl
      have m : Mem W G_679 w (Itm.box b0 110 [v_672, (.int .i64 y_665.2.2.1), (.int .u64 y_665.2.2.2)] :: Itm.box b_2 31 [(.slice none 0 0)] :: it_688 :: it_682 :: H) := m.front 3 rfl
      have m : Mem W G_679 w (Itm.box b0 110 [v_672, (.int .i64 y_665.2.2.1), (.int .u64 y_665.2.2.2)] :: Itm.box b_2 31 [(.slice none 0 0)] :: it_688 :: H) := m.eraseAt 3
      obtain rfl := Option.some.inj hs_607
      exact ⟨_, rfl, _, _, _, _, _, rfl, _, v_689, it_688, v_672, (GLe.trans hl_623 (GLe.trans hl_668 hl_680)), f.weak ⟨rfl, rfl, rfl, rfl, rfl, rfl, rfl, trivial⟩, m, o_690, h_673⟩
     ·refine k_false f rfl hc_674 ?_
      refine k_skip ?_
      refine k_region ?_
      refine l_op f rfl rfl rfl (r_move (f.eval rfl)) (fun a f => ?_)
      refine l_op f rfl rfl rfl (r_int (f.eval rfl) (f.eval rfl) b_add) (fun a f => ?_)
      refine l_op f rfl rfl rfl (r_assign (f.eval rfl)) (fun a f => ?_)
      refine l_nil ?_
      have m : Mem W G_667 w (it_614 :: Itm.box b0 110 [v_672, (.int .i64 y_665.2.2.1), (.int .u64 y_665.2.2.2)] :: Itm.box b_2 31 [(.slice none 0 0)] :: H) := m.front 2 rfl
      have m : Mem W G_667 w (Itm.box b_2 31 [(.slice none 0 0)] :: it_614 :: Itm.box b0 110 [v_672, (.int .i64 y_665.2.2.1), (.int .u64 y_665.2.2.2)] :: H) := m.front 2 rfl
      have m : Mem W G_667 w (Itm.box b0 110 [v_672, (.int .i64 y_665.2.2.1), (.int .u64 y_665.2.2.2)] :: Itm.box b_2 31 [(.slice none 0 0)] :: it_614 :: H) := m.front 2 rfl
      obtain rfl := Option.some.inj hs_607
      exact ⟨_, rfl, _, _, _, _, _, rfl, _, v_613, it_614, v_672, (GLe.trans hl_623 hl_668), f.weak ⟨rfl, rfl, rfl, rfl, rfl, rfl, rfl, trivial⟩, m, o_615, h_673⟩
    ·refine k_false f rfl hc_664 ?_
     refine k_exit rfl ?_
     have m : Mem W G_611 w (it_614 :: Itm.box b0 110 [v_619, (.int .i64 x_621), (.int .u64 x_622)] :: Itm.box b_2 31 [(.slice none 0 0)] :: H) := m.front 2 rfl
     have m : Mem W G_611 w (Itm.box b_2 31 [(.slice none 0 0)] :: it_614 :: Itm.box b0 110 [v_619, (.int .i64 x_621), (.int .u64 x_622)] :: H) := m.front 2 rfl
     have m : Mem W G_611 w (Itm.box b0 110 [v_619, (.int .i64 x_621), (.int .u64 x_622)] :: Itm.box b_2 31 [(.slice none 0 0)] :: it_614 :: H) := m.front 2 rfl
     obtain rfl := Option.some.inj hs_607
     obtain rfl := hq_608 _ rfl
     exact ⟨_, _, _, _, rfl, _, v_613, it_614, v_619, hl_623, f.weak ⟨rfl, rfl, rfl, rfl, rfl, rfl, trivial⟩, m, o_615, h_620⟩
   ·rintro a w ⟨l_653, l_658, x_661, x_662, rfl, G_652, v_654, it_655, v_659, hl_663, f, m, o_656, h_660⟩
    refine k_region ?_
    refine l_op f rfl rfl rfl (r_move (f.eval rfl)) (fun a f => ?_)
    refine l_op f rfl rfl rfl (r_int (f.eval rfl) (f.eval rfl) b_add) (fun a f => ?_)
    refine l_op f rfl rfl rfl (r_assign (f.eval rfl)) (fun a f => ?_)
    refine l_nil ?_
    have m : Mem W G_652 w (it_655 :: Itm.box b0 110 [v_659, (.int .i64 x_661), (.int .u64 x_662)] :: Itm.box b_2 31 [(.slice none 0 0)] :: H) := m.front 2 rfl
    have m : Mem W G_652 w (Itm.box b_2 31 [(.slice none 0 0)] :: it_655 :: Itm.box b0 110 [v_659, (.int .i64 x_661), (.int .u64 x_662)] :: H) := m.front 2 rfl
    have m : Mem W G_652 w (Itm.box b0 110 [v_659, (.int .i64 x_661), (.int .u64 x_662)] :: Itm.box b_2 31 [(.slice none 0 0)] :: it_655 :: H) := m.front 2 rfl
    obtain rfl := Option.some.inj hs_351
    exact ⟨_, rfl, _, _, _, _, _, rfl, _, v_654, it_655, v_659, (GLe.trans hl_367 hl_663), f.weak ⟨rfl, rfl, rfl, rfl, rfl, rfl, trivial⟩, m, o_656, h_660⟩
  ·refine k_false f rfl hc_536 ?_
   refine k_exit rfl ?_
   have m : Mem W G_355 w (it_358 :: Itm.box b0 110 [v_363, (.int .i64 x_365), (.int .u64 x_366)] :: Itm.box b_2 31 [(.slice none 0 0)] :: H) := m.front 2 rfl
   have m : Mem W G_355 w (Itm.box b0 110 [v_363, (.int .i64 x_365), (.int .u64 x_366)] :: it_358 :: Itm.box b_2 31 [(.slice none 0 0)] :: H) := m.front 1 rfl
   have m : Mem W G_355 w (Itm.box b_2 31 [(.slice none 0 0)] :: Itm.box b0 110 [v_363, (.int .i64 x_365), (.int .u64 x_366)] :: it_358 :: H) := m.front 2 rfl
   obtain rfl := Option.some.inj hs_351
   obtain rfl := hq_352 _ rfl
   exact ⟨_, _, _, _, rfl, _, v_357, it_358, v_363, hl_367, f.weak ⟨rfl, rfl, rfl, trivial⟩, m, o_359, h_364⟩
 ·rintro a w ⟨l_525, l_530, x_533, x_534, rfl, G_524, v_526, it_527, v_531, hl_535, f, m, o_528, h_532⟩
  refine k_seq ?_
  refine k_region ?_
  refine l_op f rfl rfl rfl (r_move (f.eval rfl)) (fun a f => ?_)
  refine l_op f rfl rfl rfl (r_move (f.eval rfl)) (fun a f => ?_)
  have m : Mem W G_524 w (it_527 :: Itm.box b_2 31 [(.slice none 0 0)] :: Itm.box b0 110 [v_531, (.int .i64 x_533), (.int .u64 x_534)] :: H) := m.front 2 rfl
  obtain ⟨G_692, hl_693, m, h_694⟩ := Ow.stamp (RSl.mono (RI.mono _)) o_528 m
  have h_532 := RSl.mono (RI.mono _) _ _ _ _ hl_693 h_532
  have m : Mem W G_692 w (Itm.box b_2 31 [(.slice none 0 0)] :: Itm.box b0 110 [v_531, (.int .i64 x_533), (.int .u64 x_534)] :: H) := m
  obtain ⟨y_695, hy_696, hd⟩ := bind_some hd
  refine l_res f rfl rfl Tryd.call104 (Wk.spec_GraphOf m h_694 hy_696) (fun v_700 G_697 Ho_701 w hl_698 m hQ_699 a f => ?_)
  obtain ⟨v_702, it_703, rfl, rfl, o_704⟩ := hQ_699
  have h_694 := RSl.mono (RSl.mono (RI.mono _)) _ _ _ _ hl_698 h_694
  have h_532 := RSl.mono (RI.mono _) _ _ _ _ hl_698 h_532
  have m : Mem W G_697 w (it_703 :: Itm.box b_2 31 [(.slice none 0 0)] :: Itm.box b0 110 [v_531, (.int .i64 x_533), (.int .u64 x_534)] :: H) := m
  refine l_op f rfl rfl rfl (r_move (f.eval rfl)) (fun a f => ?_)
  refine l_op f rfl rfl rfl (r_extract (f.eval rfl) rfl) (fun a f => ?_)
  refine l_op f rfl rfl rfl (r_extract (f.eval rfl) rfl) (fun a f => ?_)
  refine l_alloc (cs := [(.slice none 0 0)]) Tryd.zeroValue31 m f rfl rfl (fun b_707 w a m f => ?_)
  refine l_boxStore 0 0 (ds := [v_702]) m Tryd.sizeOf31 f rfl rfl rfl (ones_cons (Ow.one1 1 m o_704 rfl) ones_nil) rfl (Nat.le_of_ble_eq_true rfl) rfl (fun w m => ?_)
  have m : Mem W G_697 w (Itm.box b_707 31 [v_702] :: it_703 :: Itm.box b_2 31 [(.slice none 0 0)] :: Itm.box b0 110 [v_531, (.int .i64 x_533), (.int .u64 x_534)] :: H) := m
  refine l_op f rfl rfl rfl (r_assign (f.eval rfl)) (fun a f => ?_)
  refine l_nil ?_
  refine k_seq ?_
  refine k_region ?_
  refine l_boxAgg 0 0 (ds := [v_702]) m Ag31 f rfl rfl rfl rfl rfl (fun a f => ?_)
  refine l_boxStore 2 0 (ds := [v_702]) m Tryd.sizeOf31 f rfl rfl rfl (ones_cons (Ow.one1 1 m o_704 rfl) ones_nil) rfl (Nat.le_of_ble_eq_true rfl) rfl (fun w m => ?_)
  have m : Mem W G_697 w (Itm.box b_707 31 [v_702] :: it_703 :: Itm.box b_2 31 [v_702] :: Itm.box b0 110 [v_531, (.int .i64 x_533), (.int .u64 x_534)] :: H) := m
  refine l_nil ?_
  refine k_ret ?_
  have rc_708 := rr_agg (P := Tryd.prog) 2 m Ag31 f (s := 4) rfl rfl rfl
  have m : Mem W G_697 w (Itm.box b0 110 [v_531, (.int .i64 x_533), (.int .u64 x_534)] :: Itm.box b_707 31 [v_702] :: it_703 :: Itm.box b_2 31 [v_702] :: H) := m.front 3 rfl
  have m : Mem W G_697 w (it_703 :: Itm.box b0 110 [v_531, (.int .i64 x_533), (.int .u64 x_534)] :: Itm.box b_707 31 [v_702] :: Itm.box b_2 31 [v_702] :: H) := m.front 2 rfl
  have m : Mem W G_697 w (it_703 :: Itm.box b0 110 [v_531, (.int .i64 x_533), (.int .u64 x_534)] :: Itm.box b_707 31 [v_702] :: H) := m.eraseAt 3
  have m : Mem W G_697 w (it_703 :: Itm.box b0 110 [v_531, (.int .i64 x_533), (.int .u64 x_534)] :: H) := m.eraseAt 2
  obtain rfl := Option.some.inj hd
  exact ⟨[(.agg #[v_702])], ⟨rc_708, trivial⟩, f.defers, _, [it_703, Itm.box b0 110 [v_531, (.int .i64 x_533), (.int .u64 x_534)]], (GLe.trans hl_6 (GLe.trans hl_15 (GLe.trans hl_535 (GLe.trans hl_693 hl_698)))), m, _, _, _, rfl, rfl, o_704, h_532⟩

theorem Wk.laws_w9Order {W w : World} {G : GH} {H : List Itm} {v0_0 : Value} {b0 : Nat} {x0_0 : (List Int)} {x0_1 : Int} {x0_2 : Int} {x1 : Int} (m : Mem W G w (Itm.box b0 110 [v0_0, (.int .i64 x0_1), (.int .u64 x0_2)] :: H)) (h0_0 : RSl (RI .u8) G v0_0 x0_0) {y : ((List Int)) × ((List Int)) × Int × Int} (hd : D.laws_w9Order x0_0 x0_1 x0_2 x1 = some y) :
  Calls Tryd.prog 61 #[(.pointer (some ⟨b0, 0, none⟩)), (.int .i64 x1)] w (Res W G H (fun G' Ho v => ∃ r0 : Value, ∃ i0 : Itm, ∃ r2 : Value, Ho = [i0, Itm.box b0 110 [r2, (.int .i64 y.2.2.1), (.int .u64 y.2.2.2)]] ∧ r0 = v ∧ Ow (RI .i64) 2 G' i0 r0 y.1 ∧ RSl (RI .u8) G' r2 y.2.1)) := by
 refine calls_b (args := [(.pointer (some ⟨b0, 0, none⟩)), (.int .i64 x1)]) (N := 35) [.tmp 4] Tryd.func61 rfl rfl (Nat.le_of_ble_eq_true rfl) rfl (fun a f => ?_)
 unfold D.laws_w9Order at hd
 refine k_seq ?_
 refine k_region ?_
 refine l_op f rfl rfl rfl (r_assign (f.eval rfl)) (fun a f => ?_)
 refine l_nil ?_
 refine k_seq ?_
 refine k_region ?_
 refine l_slit (R := (RI .i64)) (xs := ([] : List Int)) (RI.one _) m T25 f rfl rfl rfl (by decide) (All2.nil _) (fun it_1 v_2 w a m o_3 f => ?_)
 refine l_op f rfl rfl rfl (r_assign (f.eval rfl)) (fun a f => ?_)
 refine l_nil ?_
 refine k_seq ?_
 refine k_seq ?_
 refine k_region ?_
 refine l_op f rfl rfl rfl (r_assign (f.eval rfl)) (fun a f => ?_)
 refine l_nil ?_
 obtain ⟨q_111, hl_112, hd⟩ := bind_some hd
 refine k_cut (fun a w => ∃ l_178 : List Int, ∃ l_183 : List Int, ∃ x_186 : Int, ∃ x_187 : Int, (l_178, l_183, x_186, x_187) = q_111 ∧ ∃ (G_177 : GH) (v_179 : Value) (it_180 : Itm) (v_184 : Value), GLe G G_177 ∧ Fr a 35 [(5, v_179)] ∧ Mem W G_177 w (Itm.box b0 110 [v_184, (.int .i64 x_186), (.int .u64 x_187)] :: it_180 :: H) ∧ Ow (RI .i64) 2 G_177 it_180 v_179 l_178 ∧ RSl (RI .u8) G_177 v_184 l_183) ?_ ?_
 ·refine k_block ?_
  have m : Mem W G w (Itm.box b0 110 [v0_0, (.int .i64 x0_1), (.int .u64 x0_2)] :: it_1 :: H) := m.front 1 rfl
  refine k_loop (fun s_115 a w => ∃ l_118 : List Int, ∃ x_123 : Int, ∃ l_124 : List Int, ∃ x_127 : Int, ∃ x_128 : Int, (l_118, x_123, l_124, x_127, x_128) = s_115 ∧ ∃ (G_117 : GH) (v_119 : Value) (it_120 : Itm) (v_125 : Value), GLe G G_117 ∧ Fr a 35 [(0, (.pointer (some ⟨b0, 0, none⟩))), (1, (.int .i64 x1)), (5, v_119), (6, (.int .i64 x_123))] ∧ Mem W G_117 w (Itm.box b0 110 [v_125, (.int .i64 x_127), (.int .u64 x_128)] :: it_120 :: H) ∧ Ow (RI .i64) 2 G_117 it_120 v_119 l_118 ∧ RSl (RI .u8) G_117 v_125 l_124) hl_112 ⟨_, _, _, _, _, rfl, _, v_2, it_1, v0_0, (GLe.refl _), f.weak ⟨rfl, rfl, rfl, rfl, trivial⟩, m, o_3, h0_0⟩ ?_
  clear hl_112 f m
  rintro s_115 o_116 hs_113 hq_114 a w ⟨l_118, x_123, l_124, x_127, x_128, rfl, G_117, v_119, it_120, v_125, hl_129, f, m, o_121, h_126⟩
  refine k_seq ?_
  refine k_seq ?_
  refine k_region ?_
  refine l_op f rfl rfl rfl (r_move (f.eval rfl)) (fun a f => ?_)
  refine l_op f rfl rfl rfl (r_move (f.eval rfl)) (fun a f => ?_)
  refine l_op f rfl rfl rfl (r_int (f.eval rfl) (f.eval rfl) b_lss) (fun a f => ?_)
  refine l_nil ?_
  rcases cond_some hs_113 with ⟨hc_189, hs_113⟩ | ⟨hc_189, hs_113⟩
  ·refine k_true f rfl hc_189 ?_
   refine k_skip ?_
   refine k_seq ?_
   refine k_block ?_
   refine k_seq ?_
   refine k_region ?_
   refine l_op f rfl rfl rfl (r_move (f.eval rfl)) (fun a f => ?_)
   refine l_op f rfl rfl rfl (r_move (f.eval rfl)) (fun a f => ?_)
   refine l_own_len 1 m o_121 rfl Tryd.underlying25 f rfl rfl (fun a f => ?_)
   refine l_op f rfl rfl rfl (r_int (f.eval rfl) (f.eval rfl) b_add) (fun a f => ?_)
   obtain ⟨y_190, hy_191, hs_113⟩ := bind_some hs_113
   refine l_res f rfl rfl Tryd.call60 (Wk.laws_dice_below m h_126 hy_191) (fun v_195 G_192 Ho_196 w hl_193 m hQ_194 a f => ?_)
   obtain ⟨v_197, rfl, rfl, h_198⟩ := hQ_194
   have o_121 := Ow.mono (RI.mono _) hl_193 o_121
   have m : Mem W G_192 w (Itm.box b0 110 [v_197, (.int .i64 y_190.2.2.1), (.int .u64 y_190.2.2.2)] :: it_120 :: H) := m
   refine l_op f rfl rfl rfl (r_assign (f.eval rfl)) (fun a f => ?_)
   refine l_nil ?_
   refine k_seq ?_
   refine k_region ?_
   refine l_slit (R := (RI .i64)) (xs := ([] : List Int)) (RI.one _) m T25 f rfl rfl rfl (by decide) (All2.nil _) (fun it_199 v_200 w a m o_201 f => ?_)
   refine l_op f rfl rfl rfl (r_move (f.eval rfl)) (fun a f => ?_)
   refine l_op f rfl rfl rfl (r_move (f.eval rfl)) (fun a f => ?_)
   have m : Mem W G_192 w (it_120 :: it_199 :: Itm.box b0 110 [v_197, (.int .i64 y_190.2.2.1), (.int .u64 y_190.2.2.2)] :: H) := m.front 2 rfl
   obtain ⟨G_203, hl_204, m, h_205⟩ := Ow.stamp (RI.mono _) o_121 m
   have o_201 := Ow.mono (RI.mono _) hl_204 o_201
   have h_198 := RSl.mono (RI.mono _) _ _ _ _ hl_204 h_198
   have m : Mem W G_203 w (it_199 :: Itm.box b0 110 [v_197, (.int .i64 y_190.2.2.1), (.int .u64 y_190.2.2.2)] :: H) := m
   obtain ⟨l_206, hx_207, hs_113⟩ := bind_some hs_113
   refine l_slice T25 f rfl rfl h_205 (.inl ⟨rfl, rfl⟩) (.inr ⟨_, _, rfl, rfl⟩) hx_207 (fun v_208 a h_209 f => ?_)
   obtain ⟨l_210, hx_211, hs_113⟩ := bind_some hs_113
   refine l_append (RI.one _) 0 m o_201 rfl T25 rfl (by decide) f rfl rfl rfl (h_209.src m) hx_211 (fun it_212 v_213 w a m o_214 f => ?_)
   have m : Mem W G_203 w (it_212 :: Itm.box b0 110 [v_197, (.int .i64 y_190.2.2.1), (.int .u64 y_190.2.2.2)] :: H) := m
   refine l_op f rfl rfl rfl (r_assign (f.eval rfl)) (fun a f => ?_)
   refine l_nil ?_
   refine k_seq ?_
   refine k_region ?_
   refine l_op f rfl rfl rfl (r_move (f.eval rfl)) (fun a f => ?_)
   refine l_op f rfl rfl rfl (r_move (f.eval rfl)) (fun a f => ?_)
   refine l_slit (R := (RI .i64)) (xs := ([x_123] : List Int)) (RI.one _) m T25 f rfl rfl rfl (by decide) (All2.cons rfl (All2.nil _)) (fun it_216 v_217 w a m o_218 f => ?_)
   obtain ⟨l_220, hx_221, hs_113⟩ := bind_some hs_113
   refine l_append (RI.one _) 1 m o_214 rfl T25 rfl (by decide) f rfl rfl rfl (Ow.src (j := 0) o_218 m rfl) hx_221 (fun it_222 v_223 w a m o_224 f => ?_)
   have m : Mem W G_203 w (it_216 :: it_222 :: Itm.box b0 110 [v_197, (.int .i64 y_190.2.2.1), (.int .u64 y_190.2.2.2)] :: H) := m
   refine l_op f rfl rfl rfl (r_assign (f.eval rfl)) (fun a f => ?_)
   refine l_nil ?_
   refine k_region ?_
   refine l_op f rfl rfl rfl (r_move (f.eval rfl)) (fun a f => ?_)
   refine l_op f rfl rfl rfl (r_move (f.eval rfl)) (fun a f => ?_)
   refine l_op f rfl rfl rfl (r_move (f.eval rfl)) (fun a f => ?_)
   obtain ⟨l_226, hx_227, hs_113⟩ := bind_some hs_113
   refine l_slice T25 f rfl rfl h_205 (.inr ⟨_, _, rfl, rfl⟩) (.inl ⟨rfl, rfl⟩) hx_227 (fun v_228 a h_229 f => ?_)
   obtain ⟨l_230, hx_231, hs_113⟩ := bind_some hs_113
   refine l_append (RI.one _) 1 m o_224 rfl T25 rfl (by decide) f rfl rfl rfl (h_229.src m) hx_231 (fun it_232 v_233 w a m o_234 f => ?_)
   have m : Mem W G_203 w (it_216 :: it_232 :: Itm.box b0 110 [v_197, (.int .i64 y_190.2.2.1), (.int .u64 y_190.2.2.2)] :: H) := m
   refine l_op f rfl rfl rfl (r_assign (f.eval rfl)) (fun a f => ?_)
   refine l_nil ?_
   refine k_region ?_
   refine l_op f rfl rfl rfl (r_move (f.eval rfl)) (fun a f => ?_)
   refine l_op f rfl rfl rfl (r_int (f.eval rfl) (f.eval rfl) b_add) (fun a f => ?_)
   refine l_op f rfl rfl rfl (r_assign (f.eval rfl)) (fun a f => ?_)
   refine l_nil ?_
   have m : Mem W G_203 w (it_232 :: it_216 :: Itm.box b0 110 [v_197, (.int .i64 y_190.2.2.1), (.int .u64 y_190.2.2.2)] :: H) := m.front 1 rfl
   have m : Mem W G_203 w (Itm.box b0 110 [v_197, (.int .i64 y_190.2.2.1), (.int .u64 y_190.2.2.2)] :: it_232 :: it_216 :: H) := m.front 2 rfl
   have m : Mem W G_203 w (Itm.box b0 110 [v_197, (.int .i64 y_190.2.2.1), (.int .u64 y_190.2.2.2)] :: it_232 :: H) := m.eraseAt 2
   obtain rfl := Option.some.inj hs_113
   exact ⟨_, rfl, _, _, _, _, _, rfl, _, v_233, it_232, v_197, (GLe.trans hl_129 (GLe.trans hl_193 hl_204)), f.weak ⟨rfl, rfl, rfl, rfl, trivial⟩, m, o_234, h_198⟩
  ·refine k_false f rfl hc_189 ?_
   refine k_exit rfl ?_
   have m : Mem W G_117 w (it_120 :: Itm.box b0 110 [v_125, (.int .i64 x_127), (.int .u64 x_128)] :: H) := m.front 1 rfl
   have m : Mem W G_117 w (Itm.box b0 110 [v_125, (.int .i64 x_127), (.int .u64 x_128)] :: it_120 :: H) := m.front 1 rfl
   obtain rfl := Option.some.inj hs_113
   obtain rfl := hq_114 _ rfl
   exact ⟨_, _, _, _, rfl, _, v_119, it_120, v_125, hl_129, f.weak ⟨rfl, trivial⟩, m, o_121, h_126⟩
 ·rintro a w ⟨l_178, l_183, x_186, x_187, rfl, G_177, v_179, it_180, v_184, hl_188, f, m, o_181, h_185⟩
  refine k_seq ?_
  refine k_region ?_
  refine l_op f rfl rfl rfl (r_move (f.eval rfl)) (fun a f => ?_)
  refine l_op f rfl rfl rfl (r_assign (f.eval rfl)) (fun a f => ?_)
  refine l_nil ?_
  refine k_ret ?_
  have m : Mem W G_177 w (it_180 :: Itm.box b0 110 [v_184, (.int .i64 x_186), (.int .u64 x_187)] :: H) := m.front 1 rfl
  obtain rfl := Option.some.inj hd
  exact ⟨[v_179], ⟨f.get _ _ rfl, trivial⟩, f.defers, _, [it_180, Itm.box b0 110 [v_184, (.int .i64 x_186), (.int .u64 x_187)]], hl_188, m, _, _, _, rfl, rfl, o_181, h_185⟩

theorem Wk.spec_l9Form {W w : World} {G : GH} {H : List Itm} {v0_0 : Value} {v0_1 : Value} {x0_0 : (List (List Int))} {x0_1 : (List (List Int))} (m : Mem W G w (H)) (h0_0 : RSl (RSl (RI .i64)) G v0_0 x0_0) (h0_1 : RSl (RSl (RI .i64)) G v0_1 x0_1) {y : Bool} (hd : D.spec_l9Form x0_0 x0_1 = some y) :
  Calls Tryd.prog 235 #[(.agg #[v0_0, v0_1])] w (Res W G H (fun _ Ho v => Ho = [] ∧ v = (.bool y))) := by
 refine calls_b (args := [(.agg #[v0_0, v0_1])]) (N := 41) [.tmp 2] Tryd.func235 rfl rfl (Nat.le_of_ble_eq_true rfl) rfl (fun a f => ?_)
 unfold D.spec_l9Form at hd
 refine k_seq ?_
 refine k_region ?_
 refine l_box (cs := [v0_0, v0_1]) m f rfl rfl rfl (fun b_2 w a m f => ?_)
 refine l_op f rfl rfl rfl (r_assign (f.eval rfl)) (fun a f => ?_)
 refine l_nil ?_
 refine k_seq ?_
 refine k_region ?_
 refine l_fieldAddr Tryd.underlying28 rfl Tryd.sizeOf22 (by decide) f rfl rfl (fun a f => ?_)
 refine l_boxCell 0 0 m Pl22 f rfl rfl rfl rfl (fun a f => ?_)
 refine l_len Tryd.underlying22 f rfl rfl h0_0 (fun a f => ?_)
 refine l_op f rfl rfl rfl (r_assign (f.eval rfl)) (fun a f => ?_)
 refine l_nil ?_
 refine k_seq ?_
 refine k_seq ?_
 refine k_region ?_
 refine l_op f rfl rfl rfl (r_move (f.eval rfl)) (fun a f => ?_)
 obtain ⟨y_3, hy_4, hd⟩ := bind_some hd
 refine l_res f rfl rfl Tryd.call109 (Wk.spec_l1In m  hy_4) (fun v_8 G_5 Ho_9 w hl_6 m hQ_7 a f => ?_)
 obtain ⟨rfl, rfl⟩ := hQ_7
 have h0_0 := RSl.mono (RSl.mono (RI.mono _)) _ _ _ _ hl_6 h0_0
 have h0_1 := RSl.mono (RSl.mono (RI.mono _)) _ _ _ _ hl_6 h0_1
 have m : Mem W G_5 w (Itm.box b_2 28 [v0_0, v0_1] :: H) := m
 refine l_op f rfl rfl rfl (r_not (f.eval rfl)) (fun a f => ?_)
 refine l_op f rfl rfl rfl (r_move (f.eval rfl)) (fun a f => ?_)
 refine l_cut 5 (fun a w => ∃ G_11, GLe G_5 G_11 ∧ Mem W G_11 w (Itm.box b_2 28 [v0_0, v0_1] :: H) ∧ Fr a 41 [(0, (.agg #[v0_0, v0_1])), (1, (.pointer (some ⟨b_2, 0, none⟩))), (3, (.int .i64 (x0_0.length : Int))), (8, (.int .i64 (x0_0.length : Int))), (9, (.bool y_3)), (10, (.bool (!y_3))), (11, (.bool (!y_3))), (16, (.bool ((!y_3) || (decide ((16 : Int) < (x0_1.length : Int))))))]) ?_ ?_
 ·rcases Bool.eq_false_or_eq_true (!y_3) with hc_10 | hc_10
  ·refine l_not' f rfl rfl rfl hc_10 (fun a f => ?_)
   refine l_not' f rfl rfl rfl hc_10 (fun a f => ?_)
   refine l_not' f rfl rfl rfl hc_10 (fun a f => ?_)
   refine l_not' f rfl rfl rfl hc_10 (fun a f => ?_)
   refine l_op f rfl rfl rfl (r_pickT (f.eval rfl) hc_10 (f.eval rfl)) (fun a f => ?_)
   exact ⟨_, (GLe.refl _), m, f.weak ⟨rfl, rfl, rfl, rfl, rfl, rfl, rfl, by rw [hc_10]; rfl, trivial⟩⟩
  ·refine l_run f rfl rfl hc_10 ?_
   refine l_fieldAddr Tryd.underlying28 rfl Tryd.sizeOf22 (by decide) f rfl rfl (fun a f => ?_)
   refine l_run f rfl rfl hc_10 ?_
   refine l_boxCell 0 1 m Pl22 f rfl rfl rfl rfl (fun a f => ?_)
   refine l_run f rfl rfl hc_10 ?_
   refine l_len Tryd.underlying22 f rfl rfl h0_1 (fun a f => ?_)
   refine l_run f rfl rfl hc_10 ?_
   refine l_op f rfl rfl rfl (r_int (f.eval rfl) (f.eval rfl) b_gtr) (fun a f => ?_)
   refine l_op f rfl rfl rfl (r_pickF (f.eval rfl) hc_10 (f.eval rfl)) (fun a f => ?_)
   exact ⟨_, (GLe.refl _), m, f.weak ⟨rfl, rfl, rfl, rfl, rfl, rfl, rfl, by rw [hc_10]; rfl, trivial⟩⟩
 ·rintro a w ⟨G_11, hl_12, m, f⟩
  have h0_0 := RSl.mono (RSl.mono (RI.mono _)) _ _ _ _ hl_12 h0_0
  have h0_1 := RSl.mono (RSl.mono (RI.mono _)) _ _ _ _ hl_12 h0_1
  refine l_nil ?_
  rcases cond_some hd with ⟨hc_13, hd⟩ | ⟨hc_13, hd⟩
  ·refine k_true f rfl hc_13 ?_
   refine k_seq ?_
   refine k_region ?_
   refine l_op f rfl rfl rfl (r_assign (f.eval rfl)) (fun a f => ?_)
   refine l_nil ?_
   refine k_ret ?_
   have m : Mem W G_11 w H := Mem.drop (H' := [Itm.box b_2 28 [v0_0, v0_1]]) m
   obtain rfl := Option.some.inj hd
   exact ⟨[(.bool false)], ⟨f.get _ _ rfl, trivial⟩, f.defers, _, [], (GLe.trans hl_6 hl_12), m, rfl, rfl⟩
  ·refine k_false f rfl hc_13 ?_
   refine k_skip ?_
   refine k_seq ?_
   refine k_seq ?_
   refine k_region ?_
   refine l_op f rfl rfl rfl (r_assign (f.eval rfl)) (fun a f => ?_)
   refine l_nil ?_
   obtain ⟨q_120, hl_121, hd⟩ := bind_some hd
   refine k_cut (fun a w => ∃ q_120' : Unit, q_120 = .inl q_120' ∧ ∃ (G_181 : GH), GLe G_11 G_181 ∧ Fr a 41 [] ∧ Mem W G_181 w (H)) ?_ ?_
   ·refine k_block ?_
    refine k_loop (fun s_124 a w => ∃ x_127 : Int, x_127 = s_124 ∧ ∃ (G_126 : GH), GLe G_11 G_126 ∧ Fr a 41 [(1, (.pointer (some ⟨b_2, 0, none⟩))), (3, (.int .i64 (x0_0.length : Int))), (4, (.int .i64 x_127))] ∧ Mem W G_126 w (Itm.box b_2 28 [v0_0, v0_1] :: H)) hl_121 ⟨_, rfl, _, (GLe.refl _), f.weak ⟨rfl, rfl, rfl, trivial⟩, m⟩ ?_
    clear hl_121 f m
    rintro s_124 o_125 hs_122 hq_123 a w ⟨x_127, rfl, G_126, hl_128, f, m⟩
    have h0_0 := RSl.mono (RSl.mono (RI.mono _)) _ _ _ _ hl_128 h0_0
    have h0_1 := RSl.mono (RSl.mono (RI.mono _)) _ _ _ _ hl_128 h0_1
    refine k_seq ?_
    refine k_seq ?_
    refine k_region ?_
    refine l_op f rfl rfl rfl (r_move (f.eval rfl)) (fun a f => ?_)
    refine l_fieldAddr Tryd.underlying28 rfl Tryd.sizeOf22 (by decide) f rfl rfl (fun a f => ?_)
    refine l_boxCell 0 1 m Pl22 f rfl rfl rfl rfl (fun a f => ?_)
    refine l_len Tryd.underlying22 f rfl rfl h0_1 (fun a f => ?_)
    refine l_op f rfl rfl rfl (r_int (f.eval rfl) (f.eval rfl) b_lss) (fun a f => ?_)
    refine l_nil ?_
    rcases cond_some hs_122 with ⟨hc_183, hs_122⟩ | ⟨hc_183, hs_122⟩
    ·refine k_true f rfl hc_183 ?_
     refine k_skip ?_
     refine k_seq ?_
     refine k_block ?_
     refine k_seq ?_
     refine k_region ?_
     refine l_fieldAddr Tryd.underlying28 rfl Tryd.sizeOf22 (by decide) f rfl rfl (fun a f => ?_)
     refine l_boxCell 0 1 m Pl22 f rfl rfl rfl rfl (fun a f => ?_)
     refine l_op f rfl rfl rfl (r_move (f.eval rfl)) (fun a f => ?_)
     obtain ⟨e_184, he_185, hs_122⟩ := bind_some hs_122
     refine l_at T22 f rfl rfl rfl h0_1 he_185 (fun p_186 c_187 a g_188 h_189 f => ?_)
     refine l_loadAt m Pl25 f rfl rfl g_188 (fun a f => ?_)
     refine l_len Tryd.underlying25 f rfl rfl h_189 (fun a f => ?_)
     refine l_op f rfl rfl rfl (r_int (f.eval rfl) (f.eval rfl) b_neq) (fun a f => ?_)
     refine l_op f rfl rfl rfl (r_move (f.eval rfl)) (fun a f => ?_)
     obtain ⟨b_219, hj_220, hs_122⟩ := bind_some hs_122
     refine l_cut 9 (fun a w => ∃ G_217, GLe G_126 G_217 ∧ Mem W G_217 w (Itm.box b_2 28 [v0_0, v0_1] :: H) ∧ Fr a 41 [(1, (.pointer (some ⟨b_2, 0, none⟩))), (3, (.int .i64 (x0_0.length : Int))), (4, (.int .i64 x_127)), (21, (.bool (decide (x_127 < (x0_1.length : Int))))), (24, (.pointer (some ⟨b_2, 1, none⟩))), (25, v0_1), (26, (.int .i64 x_127)), (27, p_186), (28, c_187), (29, (.int .i64 (e_184.length : Int))), (30, (.bool ((e_184.length : Int) != 2))), (31, (.bool ((e_184.length : Int) != 2))), (40, (.bool b_219))]) ?_ ?_
     ·rcases cond_some hj_220 with ⟨hc_190, hj_220⟩ | ⟨hc_190, hj_220⟩
      ·refine l_not' f rfl rfl rfl hc_190 (fun a f => ?_)
       refine l_not' f rfl rfl rfl hc_190 (fun a f => ?_)
       refine l_not' f rfl rfl rfl hc_190 (fun a f => ?_)
       refine l_not' f rfl rfl rfl hc_190 (fun a f => ?_)
       refine l_not' f rfl rfl rfl hc_190 (fun a f => ?_)
       refine l_not' f rfl rfl rfl hc_190 (fun a f => ?_)
       refine l_not' f rfl rfl rfl hc_190 (fun a f => ?_)
       refine l_not' f rfl rfl rfl hc_190 (fun a f => ?_)
       refine l_op f rfl rfl rfl (r_pickT (f.eval rfl) hc_190 (f.eval rfl)) (fun a f => ?_)
       obtain rfl := Option.some.inj hj_220
       exact ⟨_, (GLe.refl _), m, f.weak ⟨rfl, rfl, rfl, rfl, rfl, rfl, rfl, rfl, rfl, rfl, rfl, rfl, rfl, trivial⟩⟩
      ·refine l_run f rfl rfl hc_190 ?_
       refine l_fieldAddr Tryd.underlying28 rfl Tryd.sizeOf22 (by decide) f rfl rfl (fun a f => ?_)
       refine l_run f rfl rfl hc_190 ?_
       refine l_boxCell 0 1 m Pl22 f rfl rfl rfl rfl (fun a f => ?_)
       refine l_run f rfl rfl hc_190 ?_
       refine l_op f rfl rfl rfl (r_move (f.eval rfl)) (fun a f => ?_)
       refine l_run f rfl rfl hc_190 ?_
       obtain ⟨e_221, he_222, hj_220⟩ := bind_some hj_220
       refine l_at T22 f rfl rfl rfl h0_1 he_222 (fun p_223 c_224 a g_225 h_226 f => ?_)
       refine l_run f rfl rfl hc_190 ?_
       refine l_loadAt m Pl25 f rfl rfl g_225 (fun a f => ?_)
       refine l_run f rfl rfl hc_190 ?_
       refine l_op f rfl rfl rfl (r_move (f.eval rfl)) (fun a f => ?_)
       refine l_run f rfl rfl hc_190 ?_
       obtain ⟨y_227, hy_228, hj_220⟩ := bind_some hj_220
       refine l_res f rfl rfl Tryd.call110 (Wk.spec_l1Set m h_226 hy_228) (fun v_232 G_229 Ho_233 w hl_230 m hQ_231 a f => ?_)
       obtain ⟨rfl, rfl⟩ := hQ_231
       have h0_1 := RSl.mono (RSl.mono (RI.mono _)) _ _ _ _ hl_230 h0_1
       have g_188 := At.mono hl_230 g_188
       have h_189 := RSl.mono (RI.mono _) _ _ _ _ hl_230 h_189
       have g_225 := At.mono hl_230 g_225
       have h_226 := RSl.mono (RI.mono _) _ _ _ _ hl_230 h_226
       have h0_0 := RSl.mono (RSl.mono (RI.mono _)) _ _ _ _ hl_230 h0_0
       have m : Mem W G_229 w (Itm.box b_2 28 [v0_0, v0_1] :: H) := m
       refine l_run f rfl rfl hc_190 ?_
       refine l_op f rfl rfl rfl (r_not (f.eval rfl)) (fun a f => ?_)
       refine l_op f rfl rfl rfl (r_pickF (f.eval rfl) hc_190 (f.eval rfl)) (fun a f => ?_)
       obtain rfl := Option.some.inj hj_220
       exact ⟨_, hl_230, m, f.weak ⟨rfl, rfl, rfl, rfl, rfl, rfl, rfl, rfl, rfl, rfl, rfl, rfl, rfl, trivial⟩⟩
     ·rintro a w ⟨G_217, hl_218, m, f⟩
      have h0_1 := RSl.mono (RSl.mono (RI.mono _)) _ _ _ _ hl_218 h0_1
      have g_188 := At.mono hl_218 g_188
      have h_189 := RSl.mono (RI.mono _) _ _ _ _ hl_218 h_189
      have h0_0 := RSl.mono (RSl.mono (RI.mono _)) _ _ _ _ hl_218 h0_0
      refine l_nil ?_
      rcases cond_some hs_122 with ⟨hc_234, hs_122⟩ | ⟨hc_234, hs_122⟩
      ·refine k_true f rfl hc_234 ?_
       refine k_seq ?_
       refine k_region ?_
       refine l_op f rfl rfl rfl (r_assign (f.eval rfl)) (fun a f => ?_)
       refine l_nil ?_
       refine k_ret ?_
       have m : Mem W G_217 w H := Mem.drop (H' := [Itm.box b_2 28 [v0_0, v0_1]]) m
       obtain rfl := Option.some.inj hs_122
       obtain rfl := hq_123 _ rfl
       obtain rfl := Option.some.inj hd
       exact ⟨[(.bool false)], ⟨f.get _ _ rfl, trivial⟩, f.defers, _, [], (GLe.trans hl_6 (GLe.trans hl_12 (GLe.trans hl_128 hl_218))), m, rfl, rfl⟩
      ·refine k_false f rfl hc_234 ?_
       refine k_skip ?_
       refine k_region ?_
       refine l_op f rfl rfl rfl (r_move (f.eval rfl)) (fun a f => ?_)
       refine l_op f rfl rfl rfl (r_int (f.eval rfl) (f.eval rfl) b_add) (fun a f => ?_)
       refine l_op f rfl rfl rfl (r_assign (f.eval rfl)) (fun a f => ?_)
       refine l_nil ?_
       obtain rfl := Option.some.inj hs_122
       exact ⟨_, rfl, _, rfl, _, (GLe.trans hl_128 hl_218), f.weak ⟨rfl, rfl, rfl, trivial⟩, m⟩
    ·refine k_false f rfl hc_183 ?_
     refine k_exit rfl ?_
     have m : Mem W G_126 w H := Mem.drop (H' := [Itm.box b_2 28 [v0_0, v0_1]]) m
     obtain rfl := Option.some.inj hs_122
     obtain rfl := hq_123 _ rfl
     exact ⟨_, rfl, _, hl_128, f.weak trivial, m⟩
   ·rintro a w ⟨_, rfl, G_181, hl_182, f, m⟩
    refine k_seq ?_
    refine k_region ?_
    refine l_op f rfl rfl rfl (r_assign (f.eval rfl)) (fun a f => ?_)
    refine l_nil ?_
    refine k_ret ?_
    obtain rfl := Option.some.inj hd
    exact ⟨[(.bool true)], ⟨f.get _ _ rfl, trivial⟩, f.defers, _, [], (GLe.trans hl_6 (GLe.trans hl_12 hl_182)), m, rfl, rfl⟩

theorem Wk.spec_l1All {W w : World} {G : GH} {H : List Itm} {x0 : Int} (m : Mem W G w (H))  {y : ((List Int))} (hd : D.spec_l1All x0 = some y) :
  Calls Tryd.prog 216 #[(.int .i64 x0)] w (Res W G H (fun G' Ho v => ∃ r0 : Value, ∃ i0 : Itm, Ho = [i0] ∧ r0 = v ∧ Ow (RI .i64) 2 G' i0 r0 y)) := by
 refine calls_b (args := [(.int .i64 x0)]) (N := 16) [.tmp 2] Tryd.func216 rfl rfl (Nat.le_of_ble_eq_true rfl) rfl (fun a f => ?_)
 unfold D.spec_l1All at hd
 refine k_seq ?_
 refine k_region ?_
 refine l_op f rfl rfl rfl (r_assign (f.eval rfl)) (fun a f => ?_)
 refine l_nil ?_
 refine k_seq ?_
 refine k_region ?_
 refine l_slit (R := (RI .i64)) (xs := ([] : List Int)) (RI.one _) m T25 f rfl rfl rfl (by decide) (All2.nil _) (fun it_1 v_2 w a m o_3 f => ?_)
 refine l_op f rfl rfl rfl (r_assign (f.eval rfl)) (fun a f => ?_)
 refine l_nil ?_
 refine k_seq ?_
 refine k_seq ?_
 refine k_region ?_
 refine l_op f rfl rfl rfl (r_assign (f.eval rfl)) (fun a f => ?_)
 refine l_nil ?_
 obtain ⟨q_34, hl_35, hd⟩ := bind_some hd
 refine k_cut (fun a w => ∃ l_60 : List Int, l_60 = q_34 ∧ ∃ (G_59 : GH) (v_61 : Value) (it_62 : Itm), GLe G G_59 ∧ Fr a 16 [(3, v_61)] ∧ Mem W G_59 w (it_62 :: H) ∧ Ow (RI .i64) 2 G_59 it_62 v_61 l_60) ?_ ?_
 ·refine k_block ?_
  refine k_loop (fun s_38 a w => ∃ l_41 : List Int, ∃ x_46 : Int, (l_41, x_46) = s_38 ∧ ∃ (G_40 : GH) (v_42 : Value) (it_43 : Itm), GLe G G_40 ∧ Fr a 16 [(0, (.int .i64 x0)), (3, v_42), (4, (.int .i64 x_46))] ∧ Mem W G_40 w (it_43 :: H) ∧ Ow (RI .i64) 2 G_40 it_43 v_42 l_41) hl_35 ⟨_, _, rfl, _, v_2, it_1, (GLe.refl _), f.weak ⟨rfl, rfl, rfl, trivial⟩, m, o_3⟩ ?_
  clear hl_35 f m
  rintro s_38 o_39 hs_36 hq_37 a w ⟨l_41, x_46, rfl, G_40, v_42, it_43, hl_47, f, m, o_44⟩
  refine k_seq ?_
  refine k_seq ?_
  refine k_region ?_
  refine l_op f rfl rfl rfl (r_move (f.eval rfl)) (fun a f => ?_)
  refine l_op f rfl rfl rfl (r_move (f.eval rfl)) (fun a f => ?_)
  refine l_op f rfl rfl rfl (r_int (f.eval rfl) (f.eval rfl) b_lss) (fun a f => ?_)
  refine l_nil ?_
  rcases cond_some hs_36 with ⟨hc_66, hs_36⟩ | ⟨hc_66, hs_36⟩
  ·refine k_true f rfl hc_66 ?_
   refine k_skip ?_
   refine k_seq ?_
   refine k_block ?_
   refine k_region ?_
   refine l_op f rfl rfl rfl (r_move (f.eval rfl)) (fun a f => ?_)
   refine l_op f rfl rfl rfl (r_move (f.eval rfl)) (fun a f => ?_)
   refine l_slit (R := (RI .i64)) (xs := ([x_46] : List Int)) (RI.one _) m T25 f rfl rfl rfl (by decide) (All2.cons rfl (All2.nil _)) (fun it_67 v_68 w a m o_69 f => ?_)
   obtain ⟨l_71, hx_72, hs_36⟩ := bind_some hs_36
   refine l_append (RI.one _) 1 m o_44 rfl T25 rfl (by decide) f rfl rfl rfl (Ow.src (j := 0) o_69 m rfl) hx_72 (fun it_73 v_74 w a m o_75 f => ?_)
   have m : Mem W G_40 w (it_67 :: it_73 :: H) := m
   refine l_op f rfl rfl rfl (r_assign (f.eval rfl)) (fun a f => ?_)
   refine l_nil ?_
   refine k_region ?_
   refine l_op f rfl rfl rfl (r_move (f.eval rfl)) (fun a f => ?_)
   refine l_op f rfl rfl rfl (r_int (f.eval rfl) (f.eval rfl) b_add) (fun a f => ?_)
   refine l_op f rfl rfl rfl (r_assign (f.eval rfl)) (fun a f => ?_)
   refine l_nil ?_
   have m : Mem W G_40 w (it_73 :: it_67 :: H) := m.front 1 rfl
   have m : Mem W G_40 w (it_73 :: H) := m.eraseAt 1
   obtain rfl := Option.some.inj hs_36
   exact ⟨_, rfl, _, _, rfl, _, v_74, it_73, hl_47, f.weak ⟨rfl, rfl, rfl, trivial⟩, m, o_75⟩
  ·refine k_false f rfl hc_66 ?_
   refine k_exit rfl ?_
   obtain rfl := Option.some.inj hs_36
   obtain rfl := hq_37 _ rfl
   exact ⟨_, rfl, _, v_42, it_43, hl_47, f.weak ⟨rfl, trivial⟩, m, o_44⟩
 ·rintro a w ⟨l_60, rfl, G_59, v_61, it_62, hl_65, f, m, o_63⟩
  refine k_seq ?_
  refine k_region ?_
  refine l_op f rfl rfl rfl (r_move (f.eval rfl)) (fun a f => ?_)
  refine l_op f rfl rfl rfl (r_assign (f.eval rfl)) (fun a f => ?_)
  refine l_nil ?_
  refine k_ret ?_
  obtain rfl := Option.some.inj hd
  exact ⟨[v_61], ⟨f.get _ _ rfl, trivial⟩, f.defers, _, [it_62], hl_65, m, _, _, rfl, rfl, o_63⟩

theorem Wk.spec_l9Near {W w : World} {G : GH} {H : List Itm} {v0_0 : Value} {v0_1 : Value} {x0_0 : (List (List Int))} {x0_1 : (List (List Int))} {x1 : Int} (m : Mem W G w (H)) (h0_0 : RSl (RSl (RI .i64)) G v0_0 x0_0) (h0_1 : RSl (RSl (RI .i64)) G v0_1 x0_1) {y : ((List Int))} (hd : D.spec_l9Near x0_0 x0_1 x1 = some y) :
  Calls Tryd.prog 237 #[(.agg #[v0_0, v0_1]), (.int .i64 x1)] w (Res W G H (fun G' Ho v => ∃ r0 : Value, Ho = [] ∧ r0 = v ∧ RSl (RI .i64) G' r0 y)) := by
 refine calls_b (args := [(.agg #[v0_0, v0_1]), (.int .i64 x1)]) (N := 52) [.tmp 4] Tryd.func237 rfl rfl (Nat.le_of_ble_eq_true rfl) rfl (fun a f => ?_)
 unfold D.spec_l9Near at hd
 refine k_seq ?_
 refine k_region ?_
 refine l_box (cs := [v0_0, v0_1]) m f rfl rfl rfl (fun b_2 w a m f => ?_)
 refine l_op f rfl rfl rfl (r_assign (f.eval rfl)) (fun a f => ?_)
 refine l_nil ?_
 refine k_seq ?_
 refine k_region ?_
 refine l_slit (R := (RI .i64)) (xs := ([] : List Int)) (RI.one _) m T25 f rfl rfl rfl (by decide) (All2.nil _) (fun it_3 v_4 w a m o_5 f => ?_)
 refine l_op f rfl rfl rfl (r_assign (f.eval rfl)) (fun a f => ?_)
 refine l_nil ?_
 refine k_seq ?_
 refine k_seq ?_
 refine k_region ?_
 refine l_op f rfl rfl rfl (r_assign (f.eval rfl)) (fun a f => ?_)
 refine l_nil ?_
 obtain ⟨G_223, hl_224, m, h_225⟩ := Ow.stamp (RI.mono _) o_5 m
 have h0_0 := RSl.mono (RSl.mono (RI.mono _)) _ _ _ _ hl_224 h0_0
 have h0_1 := RSl.mono (RSl.mono (RI.mono _)) _ _ _ _ hl_224 h0_1
 have m : Mem W G_223 w (Itm.box b_2 28 [v0_0, v0_1] :: H) := m
 obtain ⟨q_217, hl_218, hd⟩ := bind_some hd
 refine k_cut (fun a w => ∃ l_331 : List Int, l_331 = q_217 ∧ ∃ (G_330 : GH) (v_332 : Value), GLe G_223 G_330 ∧ Fr a 52 [(5, v_332)] ∧ Mem W G_330 w (H) ∧ RSl (RI .i64) G_330 v_332 l_331) ?_ ?_
 ·refine k_block ?_
  refine k_loop (fun s_221 a w => ∃ l_227 : List Int, ∃ x_230 : Int, (l_227, x_230) = s_221 ∧ ∃ (G_226 : GH) (v_228 : Value), GLe G_223 G_226 ∧ Fr a 52 [(1, (.int .i64 x1)), (2, (.pointer (some ⟨b_2, 0, none⟩))), (5, v_228), (6, (.int .i64 x_230))] ∧ Mem W G_226 w (Itm.box b_2 28 [v0_0, v0_1] :: H) ∧ RSl (RI .i64) G_226 v_228 l_227) hl_218 ⟨_, _, rfl, _, v_4, (GLe.refl _), f.weak ⟨rfl, rfl, rfl, rfl, trivial⟩, m, h_225⟩ ?_
  clear hl_218 f m
  rintro s_221 o_222 hs_219 hq_220 a w ⟨l_227, x_230, rfl, G_226, v_228, hl_231, f, m, h_229⟩
  have h0_0 := RSl.mono (RSl.mono (RI.mono _)) _ _ _ _ hl_231 h0_0
  have h0_1 := RSl.mono (RSl.mono (RI.mono _)) _ _ _ _ hl_231 h0_1
  refine k_seq ?_
  refine k_seq ?_
  refine k_region ?_
  refine l_op f rfl rfl rfl (r_move (f.eval rfl)) (fun a f => ?_)
  refine l_fieldAddr Tryd.underlying28 rfl Tryd.sizeOf22 (by decide) f rfl rfl (fun a f => ?_)
  refine l_boxCell 0 1 m Pl22 f rfl rfl rfl rfl (fun a f => ?_)
  refine l_len Tryd.underlying22 f rfl rfl h0_1 (fun a f => ?_)
  refine l_op f rfl rfl rfl (r_int (f.eval rfl) (f.eval rfl) b_lss) (fun a f => ?_)
  refine l_nil ?_
  rcases cond_some hs_219 with ⟨hc_335, hs_219⟩ | ⟨hc_335, hs_219⟩
  ·refine k_true f rfl hc_335 ?_
   refine k_skip ?_
   refine k_seq ?_
   refine k_block ?_
   refine k_seq ?_
   refine k_seq ?_
   refine k_region ?_
   refine l_fieldAddr Tryd.underlying28 rfl Tryd.sizeOf22 (by decide) f rfl rfl (fun a f => ?_)
   refine l_boxCell 0 1 m Pl22 f rfl rfl rfl rfl (fun a f => ?_)
   refine l_op f rfl rfl rfl (r_move (f.eval rfl)) (fun a f => ?_)
   obtain ⟨e_336, he_337, hs_219⟩ := bind_some hs_219
   refine l_at T22 f rfl rfl rfl h0_1 he_337 (fun p_338 c_339 a g_340 h_341 f => ?_)
   refine l_loadAt m Pl25 f rfl rfl g_340 (fun a f => ?_)
   obtain ⟨e_342, he_343, hs_219⟩ := bind_some hs_219
   refine l_at T25 f rfl rfl rfl h_341 he_343 (fun p_344 c_345 a g_346 h_347 f => ?_)
   subst h_347
   refine l_loadAt m Pl2 f rfl rfl g_346 (fun a f => ?_)
   refine l_op f rfl rfl rfl (r_move (f.eval rfl)) (fun a f => ?_)
   refine l_op f rfl rfl rfl (r_int (f.eval rfl) (f.eval rfl) b_eql) (fun a f => ?_)
   refine l_nil ?_
   obtain ⟨j_370, hj_371, hs_219⟩ := bind_some hs_219
   refine k_cut (fun a w => ∃ l_373 : List Int, l_373 = j_370 ∧ ∃ (G_372 : GH) (v_374 : Value), GLe G_226 G_372 ∧ Fr a 52 [(1, (.int .i64 x1)), (2, (.pointer (some ⟨b_2, 0, none⟩))), (5, v_374), (6, (.int .i64 x_230))] ∧ Mem W G_372 w (Itm.box b_2 28 [v0_0, v0_1] :: H) ∧ RSl (RI .i64) G_372 v_374 l_373) ?_ ?_
   ·rcases cond_some hj_371 with ⟨hc_377, hj_371⟩ | ⟨hc_377, hj_371⟩
    ·refine k_true f rfl hc_377 ?_
     refine k_region ?_
     refine l_op f rfl rfl rfl (r_move (f.eval rfl)) (fun a f => ?_)
     refine l_fieldAddr Tryd.underlying28 rfl Tryd.sizeOf22 (by decide) f rfl rfl (fun a f => ?_)
     refine l_boxCell 0 1 m Pl22 f rfl rfl rfl rfl (fun a f => ?_)
     refine l_op f rfl rfl rfl (r_move (f.eval rfl)) (fun a f => ?_)
     obtain ⟨e_378, he_379, hj_371⟩ := bind_some hj_371
     refine l_at T22 f rfl rfl rfl h0_1 he_379 (fun p_380 c_381 a g_382 h_383 f => ?_)
     refine l_loadAt m Pl25 f rfl rfl g_382 (fun a f => ?_)
     obtain ⟨e_384, he_385, hj_371⟩ := bind_some hj_371
     refine l_at T25 f rfl rfl rfl h_383 he_385 (fun p_386 c_387 a g_388 h_389 f => ?_)
     subst h_389
     refine l_loadAt m Pl2 f rfl rfl g_388 (fun a f => ?_)
     obtain ⟨y_390, hy_391, hj_371⟩ := bind_some hj_371
     refine l_res f rfl rfl Tryd.call149 (Wk.spec_l1Into m h_229 hy_391) (fun v_395 G_392 Ho_396 w hl_393 m hQ_394 a f => ?_)
     obtain ⟨v_397, rfl, rfl, h_398⟩ := hQ_394
     have h_229 := RSl.mono (RI.mono _) _ _ _ _ hl_393 h_229
     have h0_1 := RSl.mono (RSl.mono (RI.mono _)) _ _ _ _ hl_393 h0_1
     have g_382 := At.mono hl_393 g_382
     have h_383 := RSl.mono (RI.mono _) _ _ _ _ hl_393 h_383
     have g_388 := At.mono hl_393 g_388
     have h0_0 := RSl.mono (RSl.mono (RI.mono _)) _ _ _ _ hl_393 h0_0
     have m : Mem W G_392 w (Itm.box b_2 28 [v0_0, v0_1] :: H) := m
     refine l_op f rfl rfl rfl (r_assign (f.eval rfl)) (fun a f => ?_)
     refine l_nil ?_
     obtain rfl := Option.some.inj hj_371
     exact ⟨_, rfl, _, v_397, hl_393, f.weak ⟨rfl, rfl, rfl, rfl, trivial⟩, m, h_398⟩
    ·refine k_false f rfl hc_377 ?_
     refine k_skip ?_
     obtain rfl := Option.some.inj hj_371
     exact ⟨_, rfl, _, v_228, (GLe.refl _), f.weak ⟨rfl, rfl, rfl, rfl, trivial⟩, m, h_229⟩
   ·rintro a w ⟨l_373, rfl, G_372, v_374, hl_376, f, m, h_375⟩
    have h0_0 := RSl.mono (RSl.mono (RI.mono _)) _ _ _ _ hl_376 h0_0
    have h0_1 := RSl.mono (RSl.mono (RI.mono _)) _ _ _ _ hl_376 h0_1
    refine k_seq ?_
    refine k_region ?_
    refine l_fieldAddr Tryd.underlying28 rfl Tryd.sizeOf22 (by decide) f rfl rfl (fun a f => ?_)
    refine l_boxCell 0 1 m Pl22 f rfl rfl rfl rfl (fun a f => ?_)
    refine l_op f rfl rfl rfl (r_move (f.eval rfl)) (fun a f => ?_)
    obtain ⟨e_399, he_400, hs_219⟩ := bind_some hs_219
    refine l_at T22 f rfl rfl rfl h0_1 he_400 (fun p_401 c_402 a g_403 h_404 f => ?_)
    refine l_loadAt m Pl25 f rfl rfl g_403 (fun a f => ?_)
    obtain ⟨e_405, he_406, hs_219⟩ := bind_some hs_219
    refine l_at T25 f rfl rfl rfl h_404 he_406 (fun p_407 c_408 a g_409 h_410 f => ?_)
    subst h_410
    refine l_loadAt m Pl2 f rfl rfl g_409 (fun a f => ?_)
    refine l_op f rfl rfl rfl (r_move (f.eval rfl)) (fun a f => ?_)
    refine l_op f rfl rfl rfl (r_int (f.eval rfl) (f.eval rfl) b_eql) (fun a f => ?_)
    refine l_nil ?_
    rcases cond_some hs_219 with ⟨hc_411, hs_219⟩ | ⟨hc_411, hs_219⟩
    ·refine k_true f rfl hc_411 ?_
     refine k_region ?_
     refine l_op f rfl rfl rfl (r_move (f.eval rfl)) (fun a f => ?_)
     refine l_fieldAddr Tryd.underlying28 rfl Tryd.sizeOf22 (by decide) f rfl rfl (fun a f => ?_)
     refine l_boxCell 0 1 m Pl22 f rfl rfl rfl rfl (fun a f => ?_)
     refine l_op f rfl rfl rfl (r_move (f.eval rfl)) (fun a f => ?_)
     obtain ⟨e_412, he_413, hs_219⟩ := bind_some hs_219
     refine l_at T22 f rfl rfl rfl h0_1 he_413 (fun p_414 c_415 a g_416 h_417 f => ?_)
     refine l_loadAt m Pl25 f rfl rfl g_416 (fun a f => ?_)
     obtain ⟨e_418, he_419, hs_219⟩ := bind_some hs_219
     refine l_at T25 f rfl rfl rfl h_417 he_419 (fun p_420 c_421 a g_422 h_423 f => ?_)
     subst h_423
     refine l_loadAt m Pl2 f rfl rfl g_422 (fun a f => ?_)
     obtain ⟨y_424, hy_425, hs_219⟩ := bind_some hs_219
     refine l_res f rfl rfl Tryd.call149 (Wk.spec_l1Into m h_375 hy_425) (fun v_429 G_426 Ho_430 w hl_427 m hQ_428 a f => ?_)
     obtain ⟨v_431, rfl, rfl, h_432⟩ := hQ_428
     have h_375 := RSl.mono (RI.mono _) _ _ _ _ hl_427 h_375
     have h0_1 := RSl.mono (RSl.mono (RI.mono _)) _ _ _ _ hl_427 h0_1
     have g_416 := At.mono hl_427 g_416
     have h_417 := RSl.mono (RI.mono _) _ _ _ _ hl_427 h_417
     have g_422 := At.mono hl_427 g_422
     have h0_0 := RSl.mono (RSl.mono (RI.mono _)) _ _ _ _ hl_427 h0_0
     have m : Mem W G_426 w (Itm.box b_2 28 [v0_0, v0_1] :: H) := m
     refine l_op f rfl rfl rfl (r_assign (f.eval rfl)) (fun a f => ?_)
     refine l_nil ?_
     refine k_region ?_
     refine l_op f rfl rfl rfl (r_move (f.eval rfl)) (fun a f => ?_)
     refine l_op f rfl rfl rfl (r_int (f.eval rfl) (f.eval rfl) b_add) (fun a f => ?_)
     refine l_op f rfl rfl rfl (r_assign (f.eval rfl)) (fun a f => ?_)
     refine l_nil ?_
     obtain rfl := Option.some.inj hs_219
     exact ⟨_, rfl, _, _, rfl, _, v_431, (GLe.trans hl_231 (GLe.trans hl_376 hl_427)), f.weak ⟨rfl, rfl, rfl, rfl, trivial⟩, m, h_432⟩
    ·refine k_false f rfl hc_411 ?_
     refine k_skip ?_
     refine k_region ?_
     refine l_op f rfl rfl rfl (r_move (f.eval rfl)) (fun a f => ?_)
     refine l_op f rfl rfl rfl (r_int (f.eval rfl) (f.eval rfl) b_add) (fun a f => ?_)
     refine l_op f rfl rfl rfl (r_assign (f.eval rfl)) (fun a f => ?_)
     refine l_nil ?_
     obtain rfl := Option.some.inj hs_219
     exact ⟨_, rfl, _, _, rfl, _, v_374, (GLe.trans hl_231 hl_376), f.weak ⟨rfl, rfl, rfl, rfl, trivial⟩, m, h_375⟩
  ·refine k_false f rfl hc_335 ?_
   refine k_exit rfl ?_
   have m : Mem W G_226 w H := Mem.drop (H' := [Itm.box b_2 28 [v0_0, v0_1]]) m
   obtain rfl := Option.some.inj hs_219
   obtain rfl := hq_220 _ rfl
   exact ⟨_, rfl, _, v_228, hl_231, f.weak ⟨rfl, trivial⟩, m, h_229⟩
 ·rintro a w ⟨l_331, rfl, G_330, v_332, hl_334, f, m, h_333⟩
  refine k_seq ?_
  refine k_region ?_
  refine l_op f rfl rfl rfl (r_move (f.eval rfl)) (fun a f => ?_)
  refine l_op f rfl rfl rfl (r_assign (f.eval rfl)) (fun a f => ?_)
  refine l_nil ?_
  refine k_ret ?_
  obtain rfl := Option.some.inj hd
  exact ⟨[v_332], ⟨f.get _ _ rfl, trivial⟩, f.defers, _, [], (GLe.trans hl_224 hl_334), m, _, rfl, rfl, h_333⟩

theorem Wk.spec_l9Reached {W w : World} {G : GH} {H : List Itm} {v0_0 : Value} {v0_1 : Value} {v1 : Value} {x0_0 : (List (List Int))} {x0_1 : (List (List Int))} {x1 : (List Int)} (m : Mem W G w (H)) (h0_0 : RSl (RSl (RI .i64)) G v0_0 x0_0) (h0_1 : RSl (RSl (RI .i64)) G v0_1 x0_1) (h1 : RSl (RI .i64) G v1 x1) {y : Int} (hd : D.spec_l9Reached x0_0 x0_1 x1 = some y) :
  Calls Tryd.prog 162 #[(.agg #[v0_0, v0_1]), v1] w (Res W G H (fun _ Ho v => Ho = [] ∧ v = (.int .i64 y))) := by
 refine calls_b (args := [(.agg #[v0_0, v0_1]), v1]) (N := 58) [.tmp 4] Tryd.func162 rfl rfl (Nat.le_of_ble_eq_true rfl) rfl (fun a f => ?_)
 unfold D.spec_l9Reached at hd
 refine k_seq ?_
 refine k_region ?_
 refine l_box (cs := [v0_0, v0_1]) m f rfl rfl rfl (fun b_2 w a m f => ?_)
 refine l_op f rfl rfl rfl (r_assign (f.eval rfl)) (fun a f => ?_)
 refine l_nil ?_
 refine k_seq ?_
 refine k_seq ?_
 refine k_region ?_
 refine l_op f rfl rfl rfl (r_move (f.eval rfl)) (fun a f => ?_)
 refine l_len Tryd.underlying25 f rfl rfl h1 (fun a f => ?_)
 refine l_op f rfl rfl rfl (r_int (f.eval rfl) (f.eval rfl) b_eql) (fun a f => ?_)
 refine l_nil ?_
 rcases cond_some hd with ⟨hc_3, hd⟩ | ⟨hc_3, hd⟩
 ·refine k_true f rfl hc_3 ?_
  refine k_seq ?_
  refine k_region ?_
  refine l_op f rfl rfl rfl (r_assign (f.eval rfl)) (fun a f => ?_)
  refine l_nil ?_
  refine k_ret ?_
  have m : Mem W G w H := Mem.drop (H' := [Itm.box b_2 28 [v0_0, v0_1]]) m
  obtain rfl := Option.some.inj hd
  exact ⟨[(.int .i64 0)], ⟨f.get _ _ rfl, trivial⟩, f.defers, _, [], (GLe.refl _), m, rfl, rfl⟩
 ·refine k_false f rfl hc_3 ?_
  refine k_skip ?_
  refine k_seq ?_
  refine k_region ?_
  refine l_op f rfl rfl rfl (r_move (f.eval rfl)) (fun a f => ?_)
  obtain ⟨e_4, he_5, hd⟩ := bind_some hd
  refine l_at T25 f rfl rfl rfl h1 he_5 (fun p_6 c_7 a g_8 h_9 f => ?_)
  subst h_9
  refine l_loadAt m Pl2 f rfl rfl g_8 (fun a f => ?_)
  refine l_slit (R := (RI .i64)) (xs := ([e_4] : List Int)) (RI.one _) m T25 f rfl rfl rfl (by decide) (All2.cons rfl (All2.nil _)) (fun it_10 v_11 w a m o_12 f => ?_)
  refine l_op f rfl rfl rfl (r_assign (f.eval rfl)) (fun a f => ?_)
  refine l_nil ?_
  refine k_seq ?_
  refine k_seq ?_
  refine k_region ?_
  refine l_op f rfl rfl rfl (r_assign (f.eval rfl)) (fun a f => ?_)
  refine l_nil ?_
  obtain ⟨q_791, hl_792, hd⟩ := bind_some hd
  refine k_cut (fun a w => ∃ l_1191 : List Int, l_1191 = q_791 ∧ ∃ (G_1190 : GH) (v_1192 : Value) (it_1193 : Itm), GLe G G_1190 ∧ Fr a 58 [(5, v_1192)] ∧ Mem W G_1190 w (it_1193 :: H) ∧ Ow (RI .i64) 2 G_1190 it_1193 v_1192 l_1191) ?_ ?_
  ·refine k_block ?_
   have m : Mem W G w (Itm.box b_2 28 [v0_0, v0_1] :: it_10 :: H) := m.front 1 rfl
   refine k_loop (fun s_795 a w => ∃ l_798 : List Int, ∃ x_803 : Int, (l_798, x_803) = s_795 ∧ ∃ (G_797 : GH) (v_799 : Value) (it_800 : Itm), GLe G G_797 ∧ Fr a 58 [(1, v1), (2, (.pointer (some ⟨b_2, 0, none⟩))), (5, v_799), (6, (.int .i64 x_803))] ∧ Mem W G_797 w (Itm.box b_2 28 [v0_0, v0_1] :: it_800 :: H) ∧ Ow (RI .i64) 2 G_797 it_800 v_799 l_798) hl_792 ⟨_, _, rfl, _, v_11, it_10, (GLe.refl _), f.weak ⟨rfl, rfl, rfl, rfl, trivial⟩, m, o_12⟩ ?_
   clear hl_792 f m
   rintro s_795 o_796 hs_793 hq_794 a w ⟨l_798, x_803, rfl, G_797, v_799, it_800, hl_804, f, m, o_801⟩
   have h1 := RSl.mono (RI.mono _) _ _ _ _ hl_804 h1
   have h0_0 := RSl.mono (RSl.mono (RI.mono _)) _ _ _ _ hl_804 h0_0
   have h0_1 := RSl.mono (RSl.mono (RI.mono _)) _ _ _ _ hl_804 h0_1
   refine k_seq ?_
   refine k_seq ?_
   refine k_region ?_
   refine l_op f rfl rfl rfl (r_move (f.eval rfl)) (fun a f => ?_)
   refine l_op f rfl rfl rfl (r_move (f.eval rfl)) (fun a f => ?_)
   refine l_own_len 1 m o_801 rfl Tryd.underlying25 f rfl rfl (fun a f => ?_)
   refine l_op f rfl rfl rfl (r_int (f.eval rfl) (f.eval rfl) b_lss) (fun a f => ?_)
   refine l_nil ?_
   rcases cond_some hs_793 with ⟨hc_1197, hs_793⟩ | ⟨hc_1197, hs_793⟩
   ·refine k_true f rfl hc_1197 ?_
    refine k_skip ?_
    refine k_seq ?_
    refine k_block ?_
    refine k_seq ?_
    refine k_draw 7 Follows (by kernel_rfl) m ?_
    refine q_boxAgg (i := 0) (listed' := #[true, false, false, false, false, false, false]) (ds := [v0_0, v0_1]) 7 0 Ag28 rfl rfl rfl rfl (by kernel_rfl) rfl f rfl rfl rfl (fun a f => ?_)
    refine q_op (i := 1) (listed' := #[true, true, false, false, false, false, false]) 7 rfl (by kernel_rfl) rfl f rfl rfl rfl (fun _ _ _ _ _ => r_move (f.eval rfl)) (fun a f => ?_)
    refine q_op (i := 2) (listed' := #[true, true, true, false, false, false, false]) 7 rfl (by kernel_rfl) rfl f rfl rfl rfl (fun _ _ _ _ _ => r_move (f.eval rfl)) (fun a f => ?_)
    obtain ⟨e_1198, he_1199, hs_793⟩ := bind_some hs_793
    refine q_own_at (i := 3) (listed' := #[true, true, true, true, false, false, false]) 7 1 m o_801 rfl T25 he_1199 rfl (by kernel_rfl) rfl f rfl rfl rfl rfl (fun p_1200 a ha_1201 f => ?_)
    refine q_own_load (i := 4) (listed' := #[true, true, true, true, true, false, false]) 7 1 o_801 rfl Pl2 ha_1201 he_1199 rfl (by kernel_rfl) rfl f rfl rfl rfl (fun c_1202 a h_1203 f => ?_)
    subst h_1203
    refine q_one (i := 5) (listed' := #[true, true, true, true, true, true, false]) rfl (by kernel_rfl) rfl (fun G_1204 w hl_1205 m K_1206 K_1206 => ?_)
    have h1 := RSl.mono (RI.mono _) _ _ _ _ hl_1205 h1
    have h0_0 := RSl.mono (RSl.mono (RI.mono _)) _ _ _ _ hl_1205 h0_0
    have h0_1 := RSl.mono (RSl.mono (RI.mono _)) _ _ _ _ hl_1205 h0_1
    have o_801 := Ow.mono (RI.mono _) hl_1205 o_801
    have m : Mem W G_1204 w (Itm.box b_2 28 [v0_0, v0_1] :: it_800 :: H) := m
    obtain ⟨y_1207, hy_1208, hs_793⟩ := bind_some hs_793
    refine l_res f rfl rfl Tryd.call237 (Wk.spec_l9Near m h0_0 h0_1 hy_1208) (fun v_1212 G_1209 Ho_1213 w hl_1210 m hQ_1211 a f => ?_)
    obtain ⟨v_1214, rfl, rfl, h_1215⟩ := hQ_1211
    have h1 := RSl.mono (RI.mono _) _ _ _ _ hl_1210 h1
    have h0_0 := RSl.mono (RSl.mono (RI.mono _)) _ _ _ _ hl_1210 h0_0
    have h0_1 := RSl.mono (RSl.mono (RI.mono _)) _ _ _ _ hl_1210 h0_1
    have o_801 := Ow.mono (RI.mono _) hl_1210 o_801
    have m : Mem W G_1209 w (Itm.box b_2 28 [v0_0, v0_1] :: it_800 :: H) := m
    refine l_nil ?_
    refine K_1206 G_1209 [] _ _ hl_1210 m ?_
    refine q_op (i := 6) (listed' := #[true, true, true, true, true, true, true]) 7 rfl (by kernel_rfl) rfl f rfl rfl rfl (fun _ _ _ _ _ => r_assign (f.eval rfl)) (fun a f => ?_)
    refine q_end (fun G_1216 w hl_1217 m => ?_)
    have h1 := RSl.mono (RI.mono _) _ _ _ _ hl_1217 h1
    have h_1215 := RSl.mono (RI.mono _) _ _ _ _ hl_1217 h_1215
    have h0_0 := RSl.mono (RSl.mono (RI.mono _)) _ _ _ _ hl_1217 h0_0
    have h0_1 := RSl.mono (RSl.mono (RI.mono _)) _ _ _ _ hl_1217 h0_1
    have o_801 := Ow.mono (RI.mono _) hl_1217 o_801
    have m : Mem W G_1216 w (Itm.box b_2 28 [v0_0, v0_1] :: it_800 :: H) := m
    refine l_nil ?_
    refine k_seq ?_
    refine k_region ?_
    refine l_op f rfl rfl rfl (r_assign (f.eval rfl)) (fun a f => ?_)
    refine l_nil ?_
    obtain ⟨q_1393, hl_1394, hs_793⟩ := bind_some hs_793
    refine k_cut (fun a w => ∃ l_1492 : List Int, l_1492 = q_1393 ∧ ∃ (G_1491 : GH) (v_1493 : Value) (it_1494 : Itm), GLe G_1216 G_1491 ∧ Fr a 58 [(1, v1), (2, (.pointer (some ⟨b_2, 0, none⟩))), (5, v_1493), (6, (.int .i64 x_803))] ∧ Mem W G_1491 w (Itm.box b_2 28 [v0_0, v0_1] :: it_1494 :: H) ∧ Ow (RI .i64) 2 G_1491 it_1494 v_1493 l_1492) ?_ ?_
    ·refine k_block ?_
     have m : Mem W G_1216 w (it_800 :: Itm.box b_2 28 [v0_0, v0_1] :: H) := m.front 1 rfl
     have m : Mem W G_1216 w (Itm.box b_2 28 [v0_0, v0_1] :: it_800 :: H) := m.front 1 rfl
     refine k_loop (fun s_1397 a w => ∃ l_1400 : List Int, ∃ x_1405 : Int, (l_1400, x_1405) = s_1397 ∧ ∃ (G_1399 : GH) (v_1401 : Value) (it_1402 : Itm), GLe G_1216 G_1399 ∧ Fr a 58 [(1, v1), (2, (.pointer (some ⟨b_2, 0, none⟩))), (5, v_1401), (6, (.int .i64 x_803)), (7, v_1214), (8, (.int .i64 x_1405))] ∧ Mem W G_1399 w (Itm.box b_2 28 [v0_0, v0_1] :: it_1402 :: H) ∧ Ow (RI .i64) 2 G_1399 it_1402 v_1401 l_1400) hl_1394 ⟨_, _, rfl, _, v_799, it_800, (GLe.refl _), f.weak ⟨rfl, rfl, rfl, rfl, rfl, rfl, trivial⟩, m, o_801⟩ ?_
     clear hl_1394 f m
     rintro s_1397 o_1398 hs_1395 hq_1396 a w ⟨l_1400, x_1405, rfl, G_1399, v_1401, it_1402, hl_1406, f, m, o_1403⟩
     have h1 := RSl.mono (RI.mono _) _ _ _ _ hl_1406 h1
     have h_1215 := RSl.mono (RI.mono _) _ _ _ _ hl_1406 h_1215
     have h0_0 := RSl.mono (RSl.mono (RI.mono _)) _ _ _ _ hl_1406 h0_0
     have h0_1 := RSl.mono (RSl.mono (RI.mono _)) _ _ _ _ hl_1406 h0_1
     refine k_seq ?_
     refine k_seq ?_
     refine k_region ?_
     refine l_op f rfl rfl rfl (r_move (f.eval rfl)) (fun a f => ?_)
     refine l_op f rfl rfl rfl (r_move (f.eval rfl)) (fun a f => ?_)
     refine l_len Tryd.underlying25 f rfl rfl h_1215 (fun a f => ?_)
     refine l_op f rfl rfl rfl (r_int (f.eval rfl) (f.eval rfl) b_lss) (fun a f => ?_)
     refine l_nil ?_
     rcases cond_some hs_1395 with ⟨hc_1498, hs_1395⟩ | ⟨hc_1498, hs_1395⟩
     ·refine k_true f rfl hc_1498 ?_
      refine k_skip ?_
      refine k_seq ?_
      refine k_block ?_
      refine k_seq ?_
      refine k_region ?_
      refine l_op f rfl rfl rfl (r_move (f.eval rfl)) (fun a f => ?_)
      refine l_op f rfl rfl rfl (r_move (f.eval rfl)) (fun a f => ?_)
      refine l_op f rfl rfl rfl (r_move (f.eval rfl)) (fun a f => ?_)
      obtain ⟨e_1499, he_1500, hs_1395⟩ := bind_some hs_1395
      refine l_at T25 f rfl rfl rfl h_1215 he_1500 (fun p_1501 c_1502 a g_1503 h_1504 f => ?_)
      subst h_1504
      refine l_loadAt m Pl2 f rfl rfl g_1503 (fun a f => ?_)
      obtain ⟨y_1505, hy_1506, hs_1395⟩ := bind_some hs_1395
      refine l_res f rfl rfl Tryd.call111 (Wk.spec_l1Has m h1 hy_1506) (fun v_1510 G_1507 Ho_1511 w hl_1508 m hQ_1509 a f => ?_)
      obtain ⟨rfl, rfl⟩ := hQ_1509
      have h1 := RSl.mono (RI.mono _) _ _ _ _ hl_1508 h1
      have h_1215 := RSl.mono (RI.mono _) _ _ _ _ hl_1508 h_1215
      have g_1503 := At.mono hl_1508 g_1503
      have h0_0 := RSl.mono (RSl.mono (RI.mono _)) _ _ _ _ hl_1508 h0_0
      have h0_1 := RSl.mono (RSl.mono (RI.mono _)) _ _ _ _ hl_1508 h0_1
      have o_1403 := Ow.mono (RI.mono _) hl_1508 o_1403
      have m : Mem W G_1507 w (Itm.box b_2 28 [v0_0, v0_1] :: it_1402 :: H) := m
      refine l_op f rfl rfl rfl (r_move (f.eval rfl)) (fun a f => ?_)
      obtain ⟨b_1547, hj_1548, hs_1395⟩ := bind_some hs_1395
      refine l_cut 8 (fun a w => ∃ G_1545, GLe G_1507 G_1545 ∧ Mem W G_1545 w (Itm.box b_2 28 [v0_0, v0_1] :: it_1402 :: H) ∧ Fr a 58 [(1, v1), (2, (.pointer (some ⟨b_2, 0, none⟩))), (5, v_1401), (6, (.int .i64 x_803)), (7, v_1214), (8, (.int .i64 x_1405)), (31, (.bool (decide (x_1405 < (y_1207.length : Int))))), (34, v1), (35, v_1214), (36, (.int .i64 x_1405)), (37, p_1501), (38, (.int .i64 e_1499)), (39, (.bool y_1505)), (40, (.bool y_1505)), (48, (.bool b_1547))]) ?_ ?_
      ·rcases cond_some hj_1548 with ⟨hc_1512, hj_1548⟩ | ⟨hc_1512, hj_1548⟩
       ·refine l_run f rfl rfl hc_1512 ?_
        refine l_op f rfl rfl rfl (r_move (f.eval rfl)) (fun a f => ?_)
        refine l_run f rfl rfl hc_1512 ?_
        refine l_op f rfl rfl rfl (r_move (f.eval rfl)) (fun a f => ?_)
        refine l_run f rfl rfl hc_1512 ?_
        refine l_op f rfl rfl rfl (r_move (f.eval rfl)) (fun a f => ?_)
        refine l_run f rfl rfl hc_1512 ?_
        obtain ⟨e_1549, he_1550, hj_1548⟩ := bind_some hj_1548
        refine l_at T25 f rfl rfl rfl h_1215 he_1550 (fun p_1551 c_1552 a g_1553 h_1554 f => ?_)
        subst h_1554
        refine l_run f rfl rfl hc_1512 ?_
        refine l_loadAt m Pl2 f rfl rfl g_1553 (fun a f => ?_)
        refine l_run f rfl rfl hc_1512 ?_
        obtain ⟨y_1555, hy_1556, hj_1548⟩ := bind_some hj_1548
        refine l_res f rfl rfl Tryd.call111 (Ow.lendCall (RI.mono _) 1 o_1403 m rfl (fun G_1557 hl_1558 m h_1559 => Wk.spec_l1Has m h_1559 hy_1556) (fun _ _ _ _ h => h)) (fun v_1563 G_1560 Ho_1564 w hl_1561 m hQ_1562 a f => ?_)
        obtain ⟨rfl, rfl⟩ := hQ_1562
        have h1 := RSl.mono (RI.mono _) _ _ _ _ hl_1561 h1
        have h_1215 := RSl.mono (RI.mono _) _ _ _ _ hl_1561 h_1215
        have g_1503 := At.mono hl_1561 g_1503
        have g_1553 := At.mono hl_1561 g_1553
        have h0_0 := RSl.mono (RSl.mono (RI.mono _)) _ _ _ _ hl_1561 h0_0
        have h0_1 := RSl.mono (RSl.mono (RI.mono _)) _ _ _ _ hl_1561 h0_1
        have o_1403 := Ow.mono (RI.mono _) hl_1561 o_1403
        have m : Mem W G_1560 w (Itm.box b_2 28 [v0_0, v0_1] :: it_1402 :: H) := m
        refine l_run f rfl rfl hc_1512 ?_
        refine l_op f rfl rfl rfl (r_not (f.eval rfl)) (fun a f => ?_)
        refine l_op f rfl rfl rfl (r_pickT (f.eval rfl) hc_1512 (f.eval rfl)) (fun a f => ?_)
        obtain rfl := Option.some.inj hj_1548
        have m : Mem W G_1560 w (it_1402 :: Itm.box b_2 28 [v0_0, v0_1] :: H) := m.front 1 rfl
        have m : Mem W G_1560 w (Itm.box b_2 28 [v0_0, v0_1] :: it_1402 :: H) := m.front 1 rfl
        exact ⟨_, hl_1561, m, f.weak ⟨rfl, rfl, rfl, rfl, rfl, rfl, rfl, rfl, rfl, rfl, rfl, rfl, rfl, rfl, rfl, trivial⟩⟩
       ·refine l_not' f rfl rfl rfl hc_1512 (fun a f => ?_)
        refine l_not' f rfl rfl rfl hc_1512 (fun a f => ?_)
        refine l_not' f rfl rfl rfl hc_1512 (fun a f => ?_)
        refine l_not' f rfl rfl rfl hc_1512 (fun a f => ?_)
        refine l_not' f rfl rfl rfl hc_1512 (fun a f => ?_)
        refine l_not' f rfl rfl rfl hc_1512 (fun a f => ?_)
        refine l_not' f rfl rfl rfl hc_1512 (fun a f => ?_)
        refine l_op f rfl rfl rfl (r_pickF (f.eval rfl) hc_1512 (f.eval rfl)) (fun a f => ?_)
        obtain rfl := Option.some.inj hj_1548
        have m : Mem W G_1507 w (it_1402 :: Itm.box b_2 28 [v0_0, v0_1] :: H) := m.front 1 rfl
        have m : Mem W G_1507 w (Itm.box b_2 28 [v0_0, v0_1] :: it_1402 :: H) := m.front 1 rfl
        exact ⟨_, (GLe.refl _), m, f.weak ⟨rfl, rfl, rfl, rfl, rfl, rfl, rfl, rfl, rfl, rfl, rfl, rfl, rfl, rfl, rfl, trivial⟩⟩
      ·rintro a w ⟨G_1545, hl_1546, m, f⟩
       have h1 := RSl.mono (RI.mono _) _ _ _ _ hl_1546 h1
       have h_1215 := RSl.mono (RI.mono _) _ _ _ _ hl_1546 h_1215
       have g_1503 := At.mono hl_1546 g_1503
       have h0_0 := RSl.mono (RSl.mono (RI.mono _)) _ _ _ _ hl_1546 h0_0
       have h0_1 := RSl.mono (RSl.mono (RI.mono _)) _ _ _ _ hl_1546 h0_1
       have o_1403 := Ow.mono (RI.mono _) hl_1546 o_1403
       refine l_nil ?_
       rcases cond_some hs_1395 with ⟨hc_1565, hs_1395⟩ | ⟨hc_1565, hs_1395⟩
       ·refine k_true f rfl hc_1565 ?_
        refine k_region ?_
        refine l_op f rfl rfl rfl (r_move (f.eval rfl)) (fun a f => ?_)
        refine l_op f rfl rfl rfl (r_move (f.eval rfl)) (fun a f => ?_)
        refine l_op f rfl rfl rfl (r_move (f.eval rfl)) (fun a f => ?_)
        obtain ⟨e_1566, he_1567, hs_1395⟩ := bind_some hs_1395
        refine l_at T25 f rfl rfl rfl h_1215 he_1567 (fun p_1568 c_1569 a g_1570 h_1571 f => ?_)
        subst h_1571
        refine l_loadAt m Pl2 f rfl rfl g_1570 (fun a f => ?_)
        refine l_slit (R := (RI .i64)) (xs := ([e_1566] : List Int)) (RI.one _) m T25 f rfl rfl rfl (by decide) (All2.cons rfl (All2.nil _)) (fun it_1572 v_1573 w a m o_1574 f => ?_)
        obtain ⟨l_1576, hx_1577, hs_1395⟩ := bind_some hs_1395
        refine l_append (RI.one _) 2 m o_1403 rfl T25 rfl (by decide) f rfl rfl rfl (Ow.src (j := 0) o_1574 m rfl) hx_1577 (fun it_1578 v_1579 w a m o_1580 f => ?_)
        have m : Mem W G_1545 w (it_1572 :: Itm.box b_2 28 [v0_0, v0_1] :: it_1578 :: H) := m
        refine l_op f rfl rfl rfl (r_assign (f.eval rfl)) (fun a f => ?_)
        refine l_nil ?_
        refine k_region ?_
        refine l_op f rfl rfl rfl (r_move (f.eval rfl)) (fun a f => ?_)
        refine l_op f rfl rfl rfl (r_int (f.eval rfl) (f.eval rfl) b_add) (fun a f => ?_)
        refine l_op f rfl rfl rfl (r_assign (f.eval rfl)) (fun a f => ?_)
        refine l_nil ?_
        have m : Mem W G_1545 w (it_1578 :: it_1572 :: Itm.box b_2 28 [v0_0, v0_1] :: H) := m.front 2 rfl
        have m : Mem W G_1545 w (Itm.box b_2 28 [v0_0, v0_1] :: it_1578 :: it_1572 :: H) := m.front 2 rfl
        have m : Mem W G_1545 w (Itm.box b_2 28 [v0_0, v0_1] :: it_1578 :: H) := m.eraseAt 2
        obtain rfl := Option.some.inj hs_1395
        exact ⟨_, rfl, _, _, rfl, _, v_1579, it_1578, (GLe.trans hl_1406 (GLe.trans hl_1508 hl_1546)), f.weak ⟨rfl, rfl, rfl, rfl, rfl, rfl, trivial⟩, m, o_1580⟩
       ·refine k_false f rfl hc_1565 ?_
        refine k_skip ?_
        refine k_region ?_
        refine l_op f rfl rfl rfl (r_move (f.eval rfl)) (fun a f => ?_)
        refine l_op f rfl rfl rfl (r_int (f.eval rfl) (f.eval rfl) b_add) (fun a f => ?_)
        refine l_op f rfl rfl rfl (r_assign (f.eval rfl)) (fun a f => ?_)
        refine l_nil ?_
        have m : Mem W G_1545 w (it_1402 :: Itm.box b_2 28 [v0_0, v0_1] :: H) := m.front 1 rfl
        have m : Mem W G_1545 w (Itm.box b_2 28 [v0_0, v0_1] :: it_1402 :: H) := m.front 1 rfl
        obtain rfl := Option.some.inj hs_1395
        exact ⟨_, rfl, _, _, rfl, _, v_1401, it_1402, (GLe.trans hl_1406 (GLe.trans hl_1508 hl_1546)), f.weak ⟨rfl, rfl, rfl, rfl, rfl, rfl, trivial⟩, m, o_1403⟩
     ·refine k_false f rfl hc_1498 ?_
      refine k_exit rfl ?_
      have m : Mem W G_1399 w (it_1402 :: Itm.box b_2 28 [v0_0, v0_1] :: H) := m.front 1 rfl
      have m : Mem W G_1399 w (Itm.box b_2 28 [v0_0, v0_1] :: it_1402 :: H) := m.front 1 rfl
      obtain rfl := Option.some.inj hs_1395
      obtain rfl := hq_1396 _ rfl
      exact ⟨_, rfl, _, v_1401, it_1402, hl_1406, f.weak ⟨rfl, rfl, rfl, rfl, trivial⟩, m, o_1403⟩
    ·rintro a w ⟨l_1492, rfl, G_1491, v_1493, it_1494, hl_1497, f, m, o_1495⟩
     have h1 := RSl.mono (RI.mono _) _ _ _ _ hl_1497 h1
     have h0_0 := RSl.mono (RSl.mono (RI.mono _)) _ _ _ _ hl_1497 h0_0
     have h0_1 := RSl.mono (RSl.mono (RI.mono _)) _ _ _ _ hl_1497 h0_1
     refine k_region ?_
     refine l_op f rfl rfl rfl (r_move (f.eval rfl)) (fun a f => ?_)
     refine l_op f rfl rfl rfl (r_int (f.eval rfl) (f.eval rfl) b_add) (fun a f => ?_)
     refine l_op f rfl rfl rfl (r_assign (f.eval rfl)) (fun a f => ?_)
     refine l_nil ?_
     have m : Mem W G_1491 w (it_1494 :: Itm.box b_2 28 [v0_0, v0_1] :: H) := m.front 1 rfl
     have m : Mem W G_1491 w (Itm.box b_2 28 [v0_0, v0_1] :: it_1494 :: H) := m.front 1 rfl
     obtain rfl := Option.some.inj hs_793
     exact ⟨_, rfl, _, _, rfl, _, v_1493, it_1494, (GLe.trans hl_804 (GLe.trans hl_1205 (GLe.trans hl_1210 (GLe.trans hl_1217 hl_1497)))), f.weak ⟨rfl, rfl, rfl, rfl, trivial⟩, m, o_1495⟩
   ·refine k_false f rfl hc_1197 ?_
    refine k_exit rfl ?_
    have m : Mem W G_797 w (it_800 :: Itm.box b_2 28 [v0_0, v0_1] :: H) := m.front 1 rfl
    have m : Mem W G_797 w (it_800 :: H) := m.eraseAt 1
    obtain rfl := Option.some.inj hs_793
    obtain rfl := hq_794 _ rfl
    exact ⟨_, rfl, _, v_799, it_800, hl_804, f.weak ⟨rfl, trivial⟩, m, o_801⟩
  ·rintro a w ⟨l_1191, rfl, G_1190, v_1192, it_1193, hl_1196, f, m, o_1194⟩
   refine k_seq ?_
   refine k_region ?_
   refine l_op f rfl rfl rfl (r_move (f.eval rfl)) (fun a f => ?_)
   refine l_own_len 0 m o_1194 rfl Tryd.underlying25 f rfl rfl (fun a f => ?_)
   refine l_op f rfl rfl rfl (r_assign (f.eval rfl)) (fun a f => ?_)
   refine l_nil ?_
   refine k_ret ?_
   have m : Mem W G_1190 w H := Mem.drop (H' := [it_1193]) m
   obtain rfl := Option.some.inj hd
   exact ⟨[(.int .i64 (l_1191.length : Int))], ⟨f.get _ _ rfl, trivial⟩, f.defers, _, [], hl_1196, m, rfl, rfl⟩

theorem Wk.spec_l9Tree {W w : World} {G : GH} {H : List Itm} {v0_0 : Value} {v0_1 : Value} {x0_0 : (List (List Int))} {x0_1 : (List (List Int))} (m : Mem W G w (H)) (h0_0 : RSl (RSl (RI .i64)) G v0_0 x0_0) (h0_1 : RSl (RSl (RI .i64)) G v0_1 x0_1) {y : Bool} (hd : D.spec_l9Tree x0_0 x0_1 = some y) :
  Calls Tryd.prog 159 #[(.agg #[v0_0, v0_1])] w (Res W G H (fun _ Ho v => Ho = [] ∧ v = (.bool y))) := by
 refine calls_b (args := [(.agg #[v0_0, v0_1])]) (N := 27) [.tmp 2] Tryd.func159 rfl rfl (Nat.le_of_ble_eq_true rfl) rfl (fun a f => ?_)
 unfold D.spec_l9Tree at hd
 refine k_seq ?_
 refine k_region ?_
 refine l_box (cs := [v0_0, v0_1]) m f rfl rfl rfl (fun b_2 w a m f => ?_)
 refine l_op f rfl rfl rfl (r_assign (f.eval rfl)) (fun a f => ?_)
 refine l_nil ?_
 refine k_seq ?_
 refine k_draw 25 Follows (by kernel_rfl) m ?_
 refine q_boxAgg (i := 0) (listed' := #[true, false, false, false, false, false, false, false, false, false, false, false, false, false, false, false, false, false, false, false, false, false, false, false, false]) (ds := [v0_0, v0_1]) 25 0 Ag28 rfl rfl rfl rfl (by kernel_rfl) rfl f rfl rfl rfl (fun a f => ?_)
 obtain ⟨y_3, hy_4, hd⟩ := bind_some hd
 refine q_call (i := 1) (listed' := #[true, true, false, false, false, false, false, false, false, false, false, false, false, false, false, false, false, false, false, false, false, false, false, false, false]) 25 rfl (by kernel_rfl) rfl f rfl rfl rfl Tryd.call235 (fun _ _ w hG_5 m => Wk.spec_l9Form m (RSl.mono (RSl.mono (RI.mono _)) _ _ _ _ hG_5 h0_0) (RSl.mono (RSl.mono (RI.mono _)) _ _ _ _ hG_5 h0_1) hy_4) (fun a f => ?_)
 refine q_op (i := 2) (listed' := #[true, true, true, false, false, false, false, false, false, false, false, false, false, false, false, false, false, false, false, false, false, false, false, false, false]) 25 rfl (by kernel_rfl) rfl f rfl rfl rfl (fun _ _ _ _ _ => r_move (f.eval rfl)) (fun a f => ?_)
 refine q_cut (fuel' := 13) (listed' := #[true, true, true, true, true, true, true, true, true, true, true, true, false, false, false, false, false, false, false, false, false, false, false, false, false]) (fun a => Fr a 27 [(0, (.agg #[v0_0, v0_1])), (1, (.pointer (some ⟨b_2, 0, none⟩))), (3, (.agg #[v0_0, v0_1])), (4, (.bool y_3)), (5, (.bool y_3)), (14, (.bool (y_3 && ((x0_1.length : Int) == (IntKind.i64.wrap ((x0_0.length : Int) - 1))))))]) ?_ ?_
 ·intro a f
  refine q_op (i := 12) (listed' := #[true, true, true, true, true, true, true, true, true, true, true, true, true, false, false, false, false, false, false, false, false, false, false, false, false]) 25 rfl (by kernel_rfl) rfl f rfl rfl rfl (fun _ _ _ _ _ => r_move (f.eval rfl)) (fun a f => ?_)
  rcases cond_some hd with ⟨hc_8, hd⟩ | ⟨hc_8, hd⟩
  ·refine q_boxAgg (i := 13) (listed' := #[true, true, true, true, true, true, true, true, true, true, true, true, true, true, false, false, false, false, false, false, false, false, false, false, false]) (ds := [v0_0, v0_1]) 25 0 Ag28 rfl rfl rfl rfl (by kernel_rfl) rfl f (wanted_of f rfl rfl rfl hc_8) rfl rfl (fun a f => ?_)
   refine q_fieldAddr (i := 14) (listed' := #[true, true, true, true, true, true, true, true, true, true, true, true, true, true, true, false, false, false, false, false, false, false, false, false, false]) 25 Tryd.underlying28 rfl Tryd.sizeOf22 (by decide) rfl (by kernel_rfl) rfl f (wanted_of f rfl rfl rfl hc_8) rfl rfl (fun a f => ?_)
   refine q_boxCell (i := 15) (listed' := #[true, true, true, true, true, true, true, true, true, true, true, true, true, true, true, true, false, false, false, false, false, false, false, false, false]) 25 0 Pl22 rfl rfl rfl (by kernel_rfl) rfl f (wanted_of f rfl rfl rfl hc_8) rfl rfl (fun a f => ?_)
   refine q_len (i := 16) (listed' := #[true, true, true, true, true, true, true, true, true, true, true, true, true, true, true, true, true, false, false, false, false, false, false, false, false]) 25 Tryd.underlying22 h0_0 rfl (by kernel_rfl) rfl f (wanted_of f rfl rfl rfl hc_8) rfl rfl (fun a f => ?_)
   refine q_fieldAddr (i := 19) (listed' := #[true, true, true, true, true, true, true, true, true, true, true, true, true, true, true, true, true, false, false, true, false, false, false, false, false]) 25 Tryd.underlying28 rfl Tryd.sizeOf22 (by decide) rfl (by kernel_rfl) rfl f (wanted_of f rfl rfl rfl hc_8) rfl rfl (fun a f => ?_)
   refine q_boxCell (i := 20) (listed' := #[true, true, true, true, true, true, true, true, true, true, true, true, true, true, true, true, true, false, false, true, true, false, false, false, false]) 25 0 Pl22 rfl rfl rfl (by kernel_rfl) rfl f (wanted_of f rfl rfl rfl hc_8) rfl rfl (fun a f => ?_)
   refine q_len (i := 21) (listed' := #[true, true, true, true, true, true, true, true, true, true, true, true, true, true, true, true, true, false, false, true, true, true, false, false, false]) 25 Tryd.underlying22 h0_0 rfl (by kernel_rfl) rfl f (wanted_of f rfl rfl rfl hc_8) rfl rfl (fun a f => ?_)
   refine q_one (i := 17) (listed' := #[true, true, true, true, true, true, true, true, true, true, true, true, true, true, true, true, true, true, false, true, true, true, false, false, false]) rfl (by kernel_rfl) rfl (fun G_9 w hl_10 m K_11 K_11 => ?_)
   have h0_0 := RSl.mono (RSl.mono (RI.mono _)) _ _ _ _ hl_10 h0_0
   have h0_1 := RSl.mono (RSl.mono (RI.mono _)) _ _ _ _ hl_10 h0_1
   have m : Mem W G_9 w (Itm.box b_2 28 [v0_0, v0_1] :: H) := m
   refine l_run f rfl rfl hc_8 ?_
   obtain ⟨y_12, hy_13, hd⟩ := bind_some hd
   refine l_res f rfl rfl Tryd.call216 (Wk.spec_l1All m  hy_13) (fun v_17 G_14 Ho_18 w hl_15 m hQ_16 a f => ?_)
   obtain ⟨v_19, it_20, rfl, rfl, o_21⟩ := hQ_16
   have h0_0 := RSl.mono (RSl.mono (RI.mono _)) _ _ _ _ hl_15 h0_0
   have h0_1 := RSl.mono (RSl.mono (RI.mono _)) _ _ _ _ hl_15 h0_1
   have m : Mem W G_14 w (it_20 :: Itm.box b_2 28 [v0_0, v0_1] :: H) := m
   refine l_nil ?_
   refine K_11 G_14 [it_20] _ _ hl_15 m ?_
   refine q_one (i := 18) (listed' := #[true, true, true, true, true, true, true, true, true, true, true, true, true, true, true, true, true, true, true, true, true, true, false, false, false]) rfl (by kernel_rfl) rfl (fun G_23 w hl_24 m K_25 K_25 => ?_)
   have h0_0 := RSl.mono (RSl.mono (RI.mono _)) _ _ _ _ hl_24 h0_0
   have h0_1 := RSl.mono (RSl.mono (RI.mono _)) _ _ _ _ hl_24 h0_1
   have o_21 := Ow.mono (RI.mono _) hl_24 o_21
   have m : Mem W G_23 w (it_20 :: Itm.box b_2 28 [v0_0, v0_1] :: H) := m
   refine l_run f rfl rfl hc_8 ?_
   obtain ⟨y_26, hy_27, hd⟩ := bind_some hd
   refine l_res f rfl rfl Tryd.call162 (Ow.lendCall (RI.mono _) 0 o_21 m rfl (fun G_28 hl_29 m h_30 => Wk.spec_l9Reached m (RSl.mono (RSl.mono (RI.mono _)) _ _ _ _ hl_29 h0_0) (RSl.mono (RSl.mono (RI.mono _)) _ _ _ _ hl_29 h0_1) h_30 hy_27) (fun _ _ _ _ h => h)) (fun v_34 G_31 Ho_35 w hl_32 m hQ_33 a f => ?_)
   obtain ⟨rfl, rfl⟩ := hQ_33
   have h0_0 := RSl.mono (RSl.mono (RI.mono _)) _ _ _ _ hl_32 h0_0
   have h0_1 := RSl.mono (RSl.mono (RI.mono _)) _ _ _ _ hl_32 h0_1
   have o_21 := Ow.mono (RI.mono _) hl_32 o_21
   have m : Mem W G_31 w (it_20 :: Itm.box b_2 28 [v0_0, v0_1] :: H) := m
   refine l_nil ?_
   refine K_25 G_31 [it_20] _ _ hl_32 m ?_
   refine q_op (i := 22) (listed' := #[true, true, true, true, true, true, true, true, true, true, true, true, true, true, true, true, true, true, true, true, true, true, true, false, false]) 25 rfl (by kernel_rfl) rfl f (wanted_of f rfl rfl rfl hc_8) rfl rfl (fun _ _ _ _ _ => r_int (f.eval rfl) (f.eval rfl) b_eql) (fun a f => ?_)
   refine q_op (i := 23) (listed' := #[true, true, true, true, true, true, true, true, true, true, true, true, true, true, true, true, true, true, true, true, true, true, true, true, false]) 25 rfl (by kernel_rfl) rfl f rfl rfl rfl (fun _ _ _ _ _ => r_pickT (f.eval rfl) hc_8 (f.eval rfl)) (fun a f => ?_)
   refine q_op (i := 24) (listed' := #[true, true, true, true, true, true, true, true, true, true, true, true, true, true, true, true, true, true, true, true, true, true, true, true, true]) 25 rfl (by kernel_rfl) rfl f rfl rfl rfl (fun _ _ _ _ _ => r_assign (f.eval rfl)) (fun a f => ?_)
   refine q_end (fun G_36 w hl_37 m => ?_)
   have h0_0 := RSl.mono (RSl.mono (RI.mono _)) _ _ _ _ hl_37 h0_0
   have h0_1 := RSl.mono (RSl.mono (RI.mono _)) _ _ _ _ hl_37 h0_1
   have o_21 := Ow.mono (RI.mono _) hl_37 o_21
   have m : Mem W G_36 w (it_20 :: Itm.box b_2 28 [v0_0, v0_1] :: H) := m
   refine l_nil ?_
   refine k_ret ?_
   have m : Mem W G_36 w H := Mem.drop (H' := [it_20, Itm.box b_2 28 [v0_0, v0_1]]) m
   obtain rfl := Option.some.inj hd
   exact ⟨[(.bool (y_26 == (x0_0.length : Int)))], ⟨f.get _ _ rfl, trivial⟩, f.defers, _, [], (GLe.trans hl_10 (GLe.trans hl_15 (GLe.trans hl_24 (GLe.trans hl_32 hl_37)))), m, rfl, rfl⟩
  ·refine q_not (i := 13) (listed' := #[true, true, true, true, true, true, true, true, true, true, true, true, true, true, false, false, false, false, false, false, false, false, false, false, false]) 25 rfl (by kernel_rfl) rfl f rfl rfl rfl hc_8 rfl rfl (fun a f => ?_)
   refine q_not (i := 14) (listed' := #[true, true, true, true, true, true, true, true, true, true, true, true, true, true, true, false, false, false, false, false, false, false, false, false, false]) 25 rfl (by kernel_rfl) rfl f rfl rfl rfl hc_8 rfl rfl (fun a f => ?_)
   refine q_not (i := 15) (listed' := #[true, true, true, true, true, true, true, true, true, true, true, true, true, true, true, true, false, false, false, false, false, false, false, false, false]) 25 rfl (by kernel_rfl) rfl f rfl rfl rfl hc_8 rfl rfl (fun a f => ?_)
   refine q_not (i := 16) (listed' := #[true, true, true, true, true, true, true, true, true, true, true, true, true, true, true, true, true, false, false, false, false, false, false, false, false]) 25 rfl (by kernel_rfl) rfl f rfl rfl rfl hc_8 rfl rfl (fun a f => ?_)
   refine q_not (i := 17) (listed' := #[true, true, true, true, true, true, true, true, true, true, true, true, true, true, true, true, true, true, false, false, false, false, false, false, false]) 25 rfl (by kernel_rfl) rfl f rfl rfl rfl hc_8 rfl rfl (fun a f => ?_)
   refine q_not (i := 18) (listed' := #[true, true, true, true, true, true, true, true, true, true, true, true, true, true, true, true, true, true, true, false, false, false, false, false, false]) 25 rfl (by kernel_rfl) rfl f rfl rfl rfl hc_8 rfl rfl (fun a f => ?_)
   refine q_not (i := 19) (listed' := #[true, true, true, true, true, true, true, true, true, true, true, true, true, true, true, true, true, true, true, true, false, false, false, false, false]) 25 rfl (by kernel_rfl) rfl f rfl rfl rfl hc_8 rfl rfl (fun a f => ?_)
   refine q_not (i := 20) (listed' := #[true, true, true, true, true, true, true, true, true, true, true, true, true, true, true, true, true, true, true, true, true, false, false, false, false]) 25 rfl (by kernel_rfl) rfl f rfl rfl rfl hc_8 rfl rfl (fun a f => ?_)
   refine q_not (i := 21) (listed' := #[true, true, true, true, true, true, true, true, true, true, true, true, true, true, true, true, true, true, true, true, true, true, false, false, false]) 25 rfl (by kernel_rfl) rfl f rfl rfl rfl hc_8 rfl rfl (fun a f => ?_)
   refine q_not (i := 22) (listed' := #[true, true, true, true, true, true, true, true, true, true, true, true, true, true, true, true, true, true, true, true, true, true, true, false, false]) 25 rfl (by kernel_rfl) rfl f rfl rfl rfl hc_8 rfl rfl (fun a f => ?_)
   refine q_op (i := 23) (listed' := #[true, true, true, true, true, true, true, true, true, true, true, true, true, true, true, true, true, true, true, true, true, true, true, true, false]) 25 rfl (by kernel_rfl) rfl f rfl rfl rfl (fun _ _ _ _ _ => r_pickF (f.eval rfl) hc_8 (f.eval rfl)) (fun a f => ?_)
   refine q_op (i := 24) (listed' := #[true, true, true, true, true, true, true, true, true, true, true, true, true, true, true, true, true, true, true, true, true, true, true, true, true]) 25 rfl (by kernel_rfl) rfl f rfl rfl rfl (fun _ _ _ _ _ => r_assign (f.eval rfl)) (fun a f => ?_)
   refine q_end (fun G_38 w hl_39 m => ?_)
   have h0_0 := RSl.mono (RSl.mono (RI.mono _)) _ _ _ _ hl_39 h0_0
   have h0_1 := RSl.mono (RSl.mono (RI.mono _)) _ _ _ _ hl_39 h0_1
   have m : Mem W G_38 w (Itm.box b_2 28 [v0_0, v0_1] :: H) := m
   refine l_nil ?_
   refine k_ret ?_
   have m : Mem W G_38 w H := Mem.drop (H' := [Itm.box b_2 28 [v0_0, v0_1]]) m
   obtain rfl := Option.some.inj hd
   exact ⟨[(.bool false)], ⟨f.get _ _ rfl, trivial⟩, f.defers, _, [], hl_39, m, rfl, rfl⟩
 ·intro K_7
  rcases Bool.eq_false_or_eq_true y_3 with hc_6 | hc_6
  ·refine q_fieldAddr (i := 3) (listed' := #[true, true, true, true, false, false, false, false, false, false, false, false, false, false, false, false, false, false, false, false, false, false, false, false, false]) 25 Tryd.underlying28 rfl Tryd.sizeOf22 (by decide) rfl (by kernel_rfl) rfl f (wanted_of f rfl rfl rfl hc_6) rfl rfl (fun a f => ?_)
   refine q_boxCell (i := 4) (listed' := #[true, true, true, true, true, false, false, false, false, false, false, false, false, false, false, false, false, false, false, false, false, false, false, false, false]) 25 0 Pl22 rfl rfl rfl (by kernel_rfl) rfl f (wanted_of f rfl rfl rfl hc_6) rfl rfl (fun a f => ?_)
   refine q_len (i := 5) (listed' := #[true, true, true, true, true, true, false, false, false, false, false, false, false, false, false, false, false, false, false, false, false, false, false, false, false]) 25 Tryd.underlying22 h0_1 rfl (by kernel_rfl) rfl f (wanted_of f rfl rfl rfl hc_6) rfl rfl (fun a f => ?_)
   refine q_fieldAddr (i := 6) (listed' := #[true, true, true, true, true, true, true, false, false, false, false, false, false, false, false, false, false, false, false, false, false, false, false, false, false]) 25 Tryd.underlying28 rfl Tryd.sizeOf22 (by decide) rfl (by kernel_rfl) rfl f (wanted_of f rfl rfl rfl hc_6) rfl rfl (fun a f => ?_)
   refine q_boxCell (i := 7) (listed' := #[true, true, true, true, true, true, true, true, false, false, false, false, false, false, false, false, false, false, false, false, false, false, false, false, false]) 25 0 Pl22 rfl rfl rfl (by kernel_rfl) rfl f (wanted_of f rfl rfl rfl hc_6) rfl rfl (fun a f => ?_)
   refine q_len (i := 8) (listed' := #[true, true, true, true, true, true, true, true, true, false, false, false, false, false, false, false, false, false, false, false, false, false, false, false, false]) 25 Tryd.underlying22 h0_0 rfl (by kernel_rfl) rfl f (wanted_of f rfl rfl rfl hc_6) rfl rfl (fun a f => ?_)
   refine q_op (i := 9) (listed' := #[true, true, true, true, true, true, true, true, true, true, false, false, false, false, false, false, false, false, false, false, false, false, false, false, false]) 25 rfl (by kernel_rfl) rfl f (wanted_of f rfl rfl rfl hc_6) rfl rfl (fun _ _ _ _ _ => r_int (f.eval rfl) (f.eval rfl) b_sub) (fun a f => ?_)
   refine q_op (i := 10) (listed' := #[true, true, true, true, true, true, true, true, true, true, true, false, false, false, false, false, false, false, false, false, false, false, false, false, false]) 25 rfl (by kernel_rfl) rfl f (wanted_of f rfl rfl rfl hc_6) rfl rfl (fun _ _ _ _ _ => r_int (f.eval rfl) (f.eval rfl) b_eql) (fun a f => ?_)
   refine q_op (i := 11) (listed' := #[true, true, true, true, true, true, true, true, true, true, true, true, false, false, false, false, false, false, false, false, false, false, false, false, false]) 25 rfl (by kernel_rfl) rfl f rfl rfl rfl (fun _ _ _ _ _ => r_pickT (f.eval rfl) hc_6 (f.eval rfl)) (fun a f => ?_)
   exact K_7 _ (f.weak ⟨rfl, rfl, rfl, rfl, rfl, by rw [hc_6]; rfl, trivial⟩)
  ·refine q_not (i := 3) (listed' := #[true, true, true, true, false, false, false, false, false, false, false, false, false, false, false, false, false, false, false, false, false, false, false, false, false]) 25 rfl (by kernel_rfl) rfl f rfl rfl rfl hc_6 rfl rfl (fun a f => ?_)
   refine q_not (i := 4) (listed' := #[true, true, true, true, true, false, false, false, false, false, false, false, false, false, false, false, false, false, false, false, false, false, false, false, false]) 25 rfl (by kernel_rfl) rfl f rfl rfl rfl hc_6 rfl rfl (fun a f => ?_)
   refine q_not (i := 5) (listed' := #[true, true, true, true, true, true, false, false, false, false, false, false, false, false, false, false, false, false, false, false, false, false, false, false, false]) 25 rfl (by kernel_rfl) rfl f rfl rfl rfl hc_6 rfl rfl (fun a f => ?_)
   refine q_not (i := 6) (listed' := #[true, true, true, true, true, true, true, false, false, false, false, false, false, false, false, false, false, false, false, false, false, false, false, false, false]) 25 rfl (by kernel_rfl) rfl f rfl rfl rfl hc_6 rfl rfl (fun a f => ?_)
   refine q_not (i := 7) (listed' := #[true, true, true, true, true, true, true, true, false, false, false, false, false, false, false, false, false, false, false, false, false, false, false, false, false]) 25 rfl (by kernel_rfl) rfl f rfl rfl rfl hc_6 rfl rfl (fun a f => ?_)
   refine q_not (i := 8) (listed' := #[true, true, true, true, true, true, true, true, true, false, false, false, false, false, false, false, false, false, false, false, false, false, false, false, false]) 25 rfl (by kernel_rfl) rfl f rfl rfl rfl hc_6 rfl rfl (fun a f => ?_)
   refine q_not (i := 9) (listed' := #[true, true, true, true, true, true, true, true, true, true, false, false, false, false, false, false, false, false, false, false, false, false, false, false, false]) 25 rfl (by kernel_rfl) rfl f rfl rfl rfl hc_6 rfl rfl (fun a f => ?_)
   refine q_not (i := 10) (listed' := #[true, true, true, true, true, true, true, true, true, true, true, false, false, false, false, false, false, false, false, false, false, false, false, false, false]) 25 rfl (by kernel_rfl) rfl f rfl rfl rfl hc_6 rfl rfl (fun a f => ?_)
   refine q_op (i := 11) (listed' := #[true, true, true, true, true, true, true, true, true, true, true, true, false, false, false, false, false, false, false, false, false, false, false, false, false]) 25 rfl (by kernel_rfl) rfl f rfl rfl rfl (fun _ _ _ _ _ => r_pickF (f.eval rfl) hc_6 (f.eval rfl)) (fun a f => ?_)
   exact K_7 _ (f.weak ⟨rfl, rfl, rfl, rfl, rfl, by rw [hc_6]; rfl, trivial⟩)

theorem Wk.spec_l1Edges {W w : World} {G : GH} {H : List Itm} {v0_0 : Value} {x0_0 : (List (List Int))} (m : Mem W G w (H)) (h0_0 : RSl (RSl (RI .i64)) G v0_0 x0_0) {y : ((List (List Int)))} (hd : D.spec_l1Edges x0_0 = some y) :
  Calls Tryd.prog 113 #[(.agg #[v0_0])] w (Res W G H (fun G' Ho v => ∃ r0 : Value, ∃ i0 : Itm, Ho = [i0] ∧ r0 = v ∧ Ow (RSl (RI .i64)) 25 G' i0 r0 y)) := by
 refine calls_b (args := [(.agg #[v0_0])]) (N := 47) [.tmp 2] Tryd.func113 rfl rfl (Nat.le_of_ble_eq_true rfl) rfl (fun a f => ?_)
 unfold D.spec_l1Edges at hd
 refine k_seq ?_
 refine k_region ?_
 refine l_box (cs := [v0_0]) m f rfl rfl rfl (fun b_2 w a m f => ?_)
 refine l_op f rfl rfl rfl (r_assign (f.eval rfl)) (fun a f => ?_)
 refine l_nil ?_
 refine k_seq ?_
 refine k_region ?_
 refine l_slit (R := (RSl (RI .i64))) (xs := ([] : List (List Int))) (RSl.one _) m T22 f rfl rfl rfl (by decide) (All2.nil _) (fun it_3 v_4 w a m o_5 f => ?_)
 refine l_op f rfl rfl rfl (r_assign (f.eval rfl)) (fun a f => ?_)
 refine l_nil ?_
 refine k_seq ?_
 refine k_seq ?_
 refine k_region ?_
 refine l_op f rfl rfl rfl (r_assign (f.eval rfl)) (fun a f => ?_)
 refine l_nil ?_
 obtain ⟨q_478, hl_479, hd⟩ := bind_some hd
 refine k_cut (fun a w => ∃ l_725 : List (List Int), l_725 = q_478 ∧ ∃ (G_724 : GH) (v_726 : Value) (it_727 : Itm), GLe G G_724 ∧ Fr a 47 [(3, v_726)] ∧ Mem W G_724 w (it_727 :: H) ∧ Ow (RSl (RI .i64)) 25 G_724 it_727 v_726 l_725) ?_ ?_
 ·refine k_block ?_
  have m : Mem W G w (Itm.box b_2 31 [v0_0] :: it_3 :: H) := m.front 1 rfl
  refine k_loop (fun s_482 a w => ∃ l_485 : List (List Int), ∃ x_490 : Int, (l_485, x_490) = s_482 ∧ ∃ (G_484 : GH) (v_486 : Value) (it_487 : Itm), GLe G G_484 ∧ Fr a 47 [(1, (.pointer (some ⟨b_2, 0, none⟩))), (3, v_486), (4, (.int .i64 x_490))] ∧ Mem W G_484 w (Itm.box b_2 31 [v0_0] :: it_487 :: H) ∧ Ow (RSl (RI .i64)) 25 G_484 it_487 v_486 l_485) hl_479 ⟨_, _, rfl, _, v_4, it_3, (GLe.refl _), f.weak ⟨rfl, rfl, rfl, trivial⟩, m, o_5⟩ ?_
  clear hl_479 f m
  rintro s_482 o_483 hs_480 hq_481 a w ⟨l_485, x_490, rfl, G_484, v_486, it_487, hl_491, f, m, o_488⟩
  have h0_0 := RSl.mono (RSl.mono (RI.mono _)) _ _ _ _ hl_491 h0_0
  refine k_seq ?_
  refine k_seq ?_
  refine k_region ?_
  refine l_op f rfl rfl rfl (r_move (f.eval rfl)) (fun a f => ?_)
  refine l_boxAgg 0 0 (ds := [v0_0]) m Ag31 f rfl rfl rfl rfl rfl (fun a f => ?_)
  obtain ⟨y_731, hy_732, hs_480⟩ := bind_some hs_480
  refine l_res f rfl rfl Tryd.call108 (Wk.spec_l1Size m h0_0 hy_732) (fun v_736 G_733 Ho_737 w hl_734 m hQ_735 a f => ?_)
  obtain ⟨rfl, rfl⟩ := hQ_735
  have h0_0 := RSl.mono (RSl.mono (RI.mono _)) _ _ _ _ hl_734 h0_0
  have o_488 := Ow.mono (RSl.mono (RI.mono _)) hl_734 o_488
  have m : Mem W G_733 w (Itm.box b_2 31 [v0_0] :: it_487 :: H) := m
  refine l_op f rfl rfl rfl (r_int (f.eval rfl) (f.eval rfl) b_lss) (fun a f => ?_)
  refine l_nil ?_
  rcases cond_some hs_480 with ⟨hc_738, hs_480⟩ | ⟨hc_738, hs_480⟩
  ·refine k_true f rfl hc_738 ?_
   refine k_skip ?_
   refine k_seq ?_
   refine k_block ?_
   refine k_seq ?_
   refine k_region ?_
   refine l_op f rfl rfl rfl (r_assign (f.eval rfl)) (fun a f => ?_)
   refine l_nil ?_
   obtain ⟨q_844, hl_845, hs_480⟩ := bind_some hs_480
   refine k_cut (fun a w => ∃ l_908 : List (List Int), l_908 = q_844 ∧ ∃ (G_907 : GH) (v_909 : Value) (it_910 : Itm), GLe G_733 G_907 ∧ Fr a 47 [(1, (.pointer (some ⟨b_2, 0, none⟩))), (3, v_909), (4, (.int .i64 x_490))] ∧ Mem W G_907 w (Itm.box b_2 31 [v0_0] :: it_910 :: H) ∧ Ow (RSl (RI .i64)) 25 G_907 it_910 v_909 l_908) ?_ ?_
   ·refine k_block ?_
    have m : Mem W G_733 w (it_487 :: Itm.box b_2 31 [v0_0] :: H) := m.front 1 rfl
    have m : Mem W G_733 w (Itm.box b_2 31 [v0_0] :: it_487 :: H) := m.front 1 rfl
    refine k_loop (fun s_848 a w => ∃ l_851 : List (List Int), ∃ x_856 : Int, (l_851, x_856) = s_848 ∧ ∃ (G_850 : GH) (v_852 : Value) (it_853 : Itm), GLe G_733 G_850 ∧ Fr a 47 [(1, (.pointer (some ⟨b_2, 0, none⟩))), (3, v_852), (4, (.int .i64 x_490)), (5, (.int .i64 x_856))] ∧ Mem W G_850 w (Itm.box b_2 31 [v0_0] :: it_853 :: H) ∧ Ow (RSl (RI .i64)) 25 G_850 it_853 v_852 l_851) hl_845 ⟨_, _, rfl, _, v_486, it_487, (GLe.refl _), f.weak ⟨rfl, rfl, rfl, rfl, trivial⟩, m, o_488⟩ ?_
    clear hl_845 f m
    rintro s_848 o_849 hs_846 hq_847 a w ⟨l_851, x_856, rfl, G_850, v_852, it_853, hl_857, f, m, o_854⟩
    have h0_0 := RSl.mono (RSl.mono (RI.mono _)) _ _ _ _ hl_857 h0_0
    refine k_seq ?_
    refine k_seq ?_
    refine k_region ?_
    refine l_op f rfl rfl rfl (r_move (f.eval rfl)) (fun a f => ?_)
    refine l_fieldAddr Tryd.underlying31 rfl Tryd.sizeOf22 (by decide) f rfl rfl (fun a f => ?_)
    refine l_boxCell 0 0 m Pl22 f rfl rfl rfl rfl (fun a f => ?_)
    refine l_op f rfl rfl rfl (r_move (f.eval rfl)) (fun a f => ?_)
    obtain ⟨e_914, he_915, hs_846⟩ := bind_some hs_846
    refine l_at T22 f rfl rfl rfl h0_0 he_915 (fun p_916 c_917 a g_918 h_919 f => ?_)
    refine l_loadAt m Pl25 f rfl rfl g_918 (fun a f => ?_)
    refine l_len Tryd.underlying25 f rfl rfl h_919 (fun a f => ?_)
    refine l_op f rfl rfl rfl (r_int (f.eval rfl) (f.eval rfl) b_lss) (fun a f => ?_)
    refine l_nil ?_
    rcases cond_some hs_846 with ⟨hc_920, hs_846⟩ | ⟨hc_920, hs_846⟩
    ·refine k_true f rfl hc_920 ?_
     refine k_skip ?_
     refine k_seq ?_
     refine k_block ?_
     refine k_seq ?_
     refine k_region ?_
     refine l_fieldAddr Tryd.underlying31 rfl Tryd.sizeOf22 (by decide) f rfl rfl (fun a f => ?_)
     refine l_boxCell 0 0 m Pl22 f rfl rfl rfl rfl (fun a f => ?_)
     refine l_op f rfl rfl rfl (r_move (f.eval rfl)) (fun a f => ?_)
     obtain ⟨e_921, he_922, hs_846⟩ := bind_some hs_846
     refine l_at T22 f rfl rfl rfl h0_0 he_922 (fun p_923 c_924 a g_925 h_926 f => ?_)
     refine l_loadAt m Pl25 f rfl rfl g_925 (fun a f => ?_)
     refine l_op f rfl rfl rfl (r_move (f.eval rfl)) (fun a f => ?_)
     obtain ⟨e_927, he_928, hs_846⟩ := bind_some hs_846
     refine l_at T25 f rfl rfl rfl h_926 he_928 (fun p_929 c_930 a g_931 h_932 f => ?_)
     subst h_932
     refine l_loadAt m Pl2 f rfl rfl g_931 (fun a f => ?_)
     refine l_op f rfl rfl rfl (r_move (f.eval rfl)) (fun a f => ?_)
     refine l_op f rfl rfl rfl (r_int (f.eval rfl) (f.eval rfl) b_gtr) (fun a f => ?_)
     refine l_nil ?_
     rcases cond_some hs_846 with ⟨hc_933, hs_846⟩ | ⟨hc_933, hs_846⟩
     ·refine k_true f rfl hc_933 ?_
      refine k_region ?_
      refine l_op f rfl rfl rfl (r_move (f.eval rfl)) (fun a f => ?_)
      refine l_op f rfl rfl rfl (r_move (f.eval rfl)) (fun a f => ?_)
      refine l_fieldAddr Tryd.underlying31 rfl Tryd.sizeOf22 (by decide) f rfl rfl (fun a f => ?_)
      refine l_boxCell 0 0 m Pl22 f rfl rfl rfl rfl (fun a f => ?_)
      refine l_op f rfl rfl rfl (r_move (f.eval rfl)) (fun a f => ?_)
      obtain ⟨e_934, he_935, hs_846⟩ := bind_some hs_846
      refine l_at T22 f rfl rfl rfl h0_0 he_935 (fun p_936 c_937 a g_938 h_939 f => ?_)
      refine l_loadAt m Pl25 f rfl rfl g_938 (fun a f => ?_)
      refine l_op f rfl rfl rfl (r_move (f.eval rfl)) (fun a f => ?_)
      obtain ⟨e_940, he_941, hs_846⟩ := bind_some hs_846
      refine l_at T25 f rfl rfl rfl h_939 he_941 (fun p_942 c_943 a g_944 h_945 f => ?_)
      subst h_945
      refine l_loadAt m Pl2 f rfl rfl g_944 (fun a f => ?_)
      refine l_slit (R := (RI .i64)) (xs := ([x_490, e_940] : List Int)) (RI.one _) m T25 f rfl rfl rfl (by decide) (All2.cons rfl (All2.cons rfl (All2.nil _))) (fun it_946 v_947 w a m o_948 f => ?_)
      obtain ⟨G_950, hl_951, m, h_952⟩ := Ow.stamp (RI.mono _) o_948 m
      have h0_0 := RSl.mono (RSl.mono (RI.mono _)) _ _ _ _ hl_951 h0_0
      have g_938 := At.mono hl_951 g_938
      have h_939 := RSl.mono (RI.mono _) _ _ _ _ hl_951 h_939
      have g_944 := At.mono hl_951 g_944
      have o_854 := Ow.mono (RSl.mono (RI.mono _)) hl_951 o_854
      have m : Mem W G_950 w (Itm.box b_2 31 [v0_0] :: it_853 :: H) := m
      refine l_slit (R := (RSl (RI .i64))) (xs := ([([x_490, e_940] : List Int)] : List (List Int))) (RSl.one _) m T22 f rfl rfl rfl (by decide) (All2.cons h_952 (All2.nil _)) (fun it_953 v_954 w a m o_955 f => ?_)
      obtain ⟨l_957, hx_958, hs_846⟩ := bind_some hs_846
      refine l_append (RSl.one _) 2 m o_854 rfl T22 rfl (by decide) f rfl rfl rfl (Ow.src (j := 0) o_955 m rfl) hx_958 (fun it_959 v_960 w a m o_961 f => ?_)
      have m : Mem W G_950 w (it_953 :: Itm.box b_2 31 [v0_0] :: it_959 :: H) := m
      refine l_op f rfl rfl rfl (r_assign (f.eval rfl)) (fun a f => ?_)
      refine l_nil ?_
      refine k_region ?_
      refine l_op f rfl rfl rfl (r_move (f.eval rfl)) (fun a f => ?_)
      refine l_op f rfl rfl rfl (r_int (f.eval rfl) (f.eval rfl) b_add) (fun a f => ?_)
      refine l_op f rfl rfl rfl (r_assign (f.eval rfl)) (fun a f => ?_)
      refine l_nil ?_
      have m : Mem W G_950 w (it_959 :: it_953 :: Itm.box b_2 31 [v0_0] :: H) := m.front 2 rfl
      have m : Mem W G_950 w (Itm.box b_2 31 [v0_0] :: it_959 :: it_953 :: H) := m.front 2 rfl
      have m : Mem W G_950 w (Itm.box b_2 31 [v0_0] :: it_959 :: H) := m.eraseAt 2
      obtain rfl := Option.some.inj hs_846
      exact ⟨_, rfl, _, _, rfl, _, v_960, it_959, (GLe.trans hl_857 hl_951), f.weak ⟨rfl, rfl, rfl, rfl, trivial⟩, m, o_961⟩
     ·refine k_false f rfl hc_933 ?_
      refine k_skip ?_
      refine k_region ?_
      refine l_op f rfl rfl rfl (r_move (f.eval rfl)) (fun a f => ?_)
      refine l_op f rfl rfl rfl (r_int (f.eval rfl) (f.eval rfl) b_add) (fun a f => ?_)
      refine l_op f rfl rfl rfl (r_assign (f.eval rfl)) (fun a f => ?_)
      refine l_nil ?_
      have m : Mem W G_850 w (it_853 :: Itm.box b_2 31 [v0_0] :: H) := m.front 1 rfl
      have m : Mem W G_850 w (Itm.box b_2 31 [v0_0] :: it_853 :: H) := m.front 1 rfl
      obtain rfl := Option.some.inj hs_846
      exact ⟨_, rfl, _, _, rfl, _, v_852, it_853, hl_857, f.weak ⟨rfl, rfl, rfl, rfl, trivial⟩, m, o_854⟩
    ·refine k_false f rfl hc_920 ?_
     refine k_exit rfl ?_
     have m : Mem W G_850 w (it_853 :: Itm.box b_2 31 [v0_0] :: H) := m.front 1 rfl
     have m : Mem W G_850 w (Itm.box b_2 31 [v0_0] :: it_853 :: H) := m.front 1 rfl
     obtain rfl := Option.some.inj hs_846
     obtain rfl := hq_847 _ rfl
     exact ⟨_, rfl, _, v_852, it_853, hl_857, f.weak ⟨rfl, rfl, rfl, trivial⟩, m, o_854⟩
   ·rintro a w ⟨l_908, rfl, G_907, v_909, it_910, hl_913, f, m, o_911⟩
    have h0_0 := RSl.mono (RSl.mono (RI.mono _)) _ _ _ _ hl_913 h0_0
    refine k_region ?_
    refine l_op f rfl rfl rfl (r_move (f.eval rfl)) (fun a f => ?_)
    refine l_op f rfl rfl rfl (r_int (f.eval rfl) (f.eval rfl) b_add) (fun a f => ?_)
    refine l_op f rfl rfl rfl (r_assign (f.eval rfl)) (fun a f => ?_)
    refine l_nil ?_
    have m : Mem W G_907 w (it_910 :: Itm.box b_2 31 [v0_0] :: H) := m.front 1 rfl
    have m : Mem W G_907 w (Itm.box b_2 31 [v0_0] :: it_910 :: H) := m.front 1 rfl
    obtain rfl := Option.some.inj hs_480
    exact ⟨_, rfl, _, _, rfl, _, v_909, it_910, (GLe.trans hl_491 (GLe.trans hl_734 hl_913)), f.weak ⟨rfl, rfl, rfl, trivial⟩, m, o_911⟩
  ·refine k_false f rfl hc_738 ?_
   refine k_exit rfl ?_
   have m : Mem W G_733 w (it_487 :: Itm.box b_2 31 [v0_0] :: H) := m.front 1 rfl
   have m : Mem W G_733 w (it_487 :: H) := m.eraseAt 1
   obtain rfl := Option.some.inj hs_480
   obtain rfl := hq_481 _ rfl
   exact ⟨_, rfl, _, v_486, it_487, (GLe.trans hl_491 hl_734), f.weak ⟨rfl, trivial⟩, m, o_488⟩
 ·rintro a w ⟨l_725, rfl, G_724, v_726, it_727, hl_730, f, m, o_728⟩
  refine k_seq ?_
  refine k_region ?_
  refine l_op f rfl rfl rfl (r_move (f.eval rfl)) (fun a f => ?_)
  refine l_op f rfl rfl rfl (r_assign (f.eval rfl)) (fun a f => ?_)
  refine l_nil ?_
  refine k_ret ?_
  obtain rfl := Option.some.inj hd
  exact ⟨[v_726], ⟨f.get _ _ rfl, trivial⟩, f.defers, _, [it_727], hl_730, m, _, _, rfl, rfl, o_728⟩

theorem Wk.spec_l8Meet {W w : World} {G : GH} {H : List Itm} {v0 : Value} {v1 : Value} {x0 : (List Int)} {x1 : (List Int)} (m : Mem W G w (H)) (h0 : RSl (RI .i64) G v0 x0) (h1 : RSl (RI .i64) G v1 x1) {y : ((List Int))} (hd : D.spec_l8Meet x0 x1 = some y) :
  Calls Tryd.prog 286 #[v0, v1] w (Res W G H (fun G' Ho v => ∃ r0 : Value, ∃ i0 : Itm, Ho = [i0] ∧ r0 = v ∧ Ow (RI .i64) 2 G' i0 r0 y)) := by
 refine calls_b (args := [v0, v1]) (N := 28) [.tmp 4] Tryd.func286 rfl rfl (Nat.le_of_ble_eq_true rfl) rfl (fun a f => ?_)
 unfold D.spec_l8Meet at hd
 refine k_seq ?_
 refine k_region ?_
 refine l_op f rfl rfl rfl (r_assign (f.eval rfl)) (fun a f => ?_)
 refine l_nil ?_
 refine k_seq ?_
 refine k_region ?_
 refine l_slit (R := (RI .i64)) (xs := ([] : List Int)) (RI.one _) m T25 f rfl rfl rfl (by decide) (All2.nil _) (fun it_1 v_2 w a m o_3 f => ?_)
 refine l_op f rfl rfl rfl (r_assign (f.eval rfl)) (fun a f => ?_)
 refine l_nil ?_
 refine k_seq ?_
 refine k_seq ?_
 refine k_region ?_
 refine l_op f rfl rfl rfl (r_assign (f.eval rfl)) (fun a f => ?_)
 refine l_nil ?_
 obtain ⟨q_74, hl_75, hd⟩ := bind_some hd
 refine k_cut (fun a w => ∃ l_120 : List Int, l_120 = q_74 ∧ ∃ (G_119 : GH) (v_121 : Value) (it_122 : Itm), GLe G G_119 ∧ Fr a 28 [(5, v_121)] ∧ Mem W G_119 w (it_122 :: H) ∧ Ow (RI .i64) 2 G_119 it_122 v_121 l_120) ?_ ?_
 ·refine k_block ?_
  refine k_loop (fun s_78 a w => ∃ l_81 : List Int, ∃ x_86 : Int, (l_81, x_86) = s_78 ∧ ∃ (G_80 : GH) (v_82 : Value) (it_83 : Itm), GLe G G_80 ∧ Fr a 28 [(0, v0), (1, v1), (5, v_82), (6, (.int .i64 x_86))] ∧ Mem W G_80 w (it_83 :: H) ∧ Ow (RI .i64) 2 G_80 it_83 v_82 l_81) hl_75 ⟨_, _, rfl, _, v_2, it_1, (GLe.refl _), f.weak ⟨rfl, rfl, rfl, rfl, trivial⟩, m, o_3⟩ ?_
  clear hl_75 f m
  rintro s_78 o_79 hs_76 hq_77 a w ⟨l_81, x_86, rfl, G_80, v_82, it_83, hl_87, f, m, o_84⟩
  have h0 := RSl.mono (RI.mono _) _ _ _ _ hl_87 h0
  have h1 := RSl.mono (RI.mono _) _ _ _ _ hl_87 h1
  refine k_seq ?_
  refine k_seq ?_
  refine k_region ?_
  refine l_op f rfl rfl rfl (r_move (f.eval rfl)) (fun a f => ?_)
  refine l_op f rfl rfl rfl (r_move (f.eval rfl)) (fun a f => ?_)
  refine l_len Tryd.underlying25 f rfl rfl h0 (fun a f => ?_)
  refine l_op f rfl rfl rfl (r_int (f.eval rfl) (f.eval rfl) b_lss) (fun a f => ?_)
  refine l_nil ?_
  rcases cond_some hs_76 with ⟨hc_126, hs_76⟩ | ⟨hc_126, hs_76⟩
  ·refine k_true f rfl hc_126 ?_
   refine k_skip ?_
   refine k_seq ?_
   refine k_block ?_
   refine k_seq ?_
   refine k_region ?_
   refine l_op f rfl rfl rfl (r_move (f.eval rfl)) (fun a f => ?_)
   refine l_op f rfl rfl rfl (r_move (f.eval rfl)) (fun a f => ?_)
   refine l_op f rfl rfl rfl (r_move (f.eval rfl)) (fun a f => ?_)
   obtain ⟨e_127, he_128, hs_76⟩ := bind_some hs_76
   refine l_at T25 f rfl rfl rfl h0 he_128 (fun p_129 c_130 a g_131 h_132 f => ?_)
   subst h_132
   refine l_loadAt m Pl2 f rfl rfl g_131 (fun a f => ?_)
   obtain ⟨y_133, hy_134, hs_76⟩ := bind_some hs_76
   refine l_res f rfl rfl Tryd.call111 (Wk.spec_l1Has m h1 hy_134) (fun v_138 G_135 Ho_139 w hl_136 m hQ_137 a f => ?_)
   obtain ⟨rfl, rfl⟩ := hQ_137
   have h0 := RSl.mono (RI.mono _) _ _ _ _ hl_136 h0
   have h1 := RSl.mono (RI.mono _) _ _ _ _ hl_136 h1
   have g_131 := At.mono hl_136 g_131
   have o_84 := Ow.mono (RI.mono _) hl_136 o_84
   have m : Mem W G_135 w (it_83 :: H) := m
   refine l_nil ?_
   rcases cond_some hs_76 with ⟨hc_140, hs_76⟩ | ⟨hc_140, hs_76⟩
   ·refine k_true f rfl hc_140 ?_
    refine k_region ?_
    refine l_op f rfl rfl rfl (r_move (f.eval rfl)) (fun a f => ?_)
    refine l_op f rfl rfl rfl (r_move (f.eval rfl)) (fun a f => ?_)
    refine l_op f rfl rfl rfl (r_move (f.eval rfl)) (fun a f => ?_)
    obtain ⟨e_141, he_142, hs_76⟩ := bind_some hs_76
    refine l_at T25 f rfl rfl rfl h0 he_142 (fun p_143 c_144 a g_145 h_146 f => ?_)
    subst h_146
    refine l_loadAt m Pl2 f rfl rfl g_145 (fun a f => ?_)
    refine l_slit (R := (RI .i64)) (xs := ([e_141] : List Int)) (RI.one _) m T25 f rfl rfl rfl (by decide) (All2.cons rfl (All2.nil _)) (fun it_147 v_148 w a m o_149 f => ?_)
    obtain ⟨l_151, hx_152, hs_76⟩ := bind_some hs_76
    refine l_append (RI.one _) 1 m o_84 rfl T25 rfl (by decide) f rfl rfl rfl (Ow.src (j := 0) o_149 m rfl) hx_152 (fun it_153 v_154 w a m o_155 f => ?_)
    have m : Mem W G_135 w (it_147 :: it_153 :: H) := m
    refine l_op f rfl rfl rfl (r_assign (f.eval rfl)) (fun a f => ?_)
    refine l_nil ?_
    refine k_region ?_
    refine l_op f rfl rfl rfl (r_move (f.eval rfl)) (fun a f => ?_)
    refine l_op f rfl rfl rfl (r_int (f.eval rfl) (f.eval rfl) b_add) (fun a f => ?_)
    refine l_op f rfl rfl rfl (r_assign (f.eval rfl)) (fun a f => ?_)
    refine l_nil ?_
    have m : Mem W G_135 w (it_153 :: it_147 :: H) := m.front 1 rfl
    have m : Mem W G_135 w (it_153 :: H) := m.eraseAt 1
    obtain rfl := Option.some.inj hs_76
    exact ⟨_, rfl, _, _, rfl, _, v_154, it_153, (GLe.trans hl_87 hl_136), f.weak ⟨rfl, rfl, rfl, rfl, trivial⟩, m, o_155⟩
   ·refine k_false f rfl hc_140 ?_
    refine k_skip ?_
    refine k_region ?_
    refine l_op f rfl rfl rfl (r_move (f.eval rfl)) (fun a f => ?_)
    refine l_op f rfl rfl rfl (r_int (f.eval rfl) (f.eval rfl) b_add) (fun a f => ?_)
    refine l_op f rfl rfl rfl (r_assign (f.eval rfl)) (fun a f => ?_)
    refine l_nil ?_
    obtain rfl := Option.some.inj hs_76
    exact ⟨_, rfl, _, _, rfl, _, v_82, it_83, (GLe.trans hl_87 hl_136), f.weak ⟨rfl, rfl, rfl, rfl, trivial⟩, m, o_84⟩
  ·refine k_false f rfl hc_126 ?_
   refine k_exit rfl ?_
   obtain rfl := Option.some.inj hs_76
   obtain rfl := hq_77 _ rfl
   exact ⟨_, rfl, _, v_82, it_83, hl_87, f.weak ⟨rfl, trivial⟩, m, o_84⟩
 ·rintro a w ⟨l_120, rfl, G_119, v_121, it_122, hl_125, f, m, o_123⟩
  refine k_seq ?_
  refine k_region ?_
  refine l_op f rfl rfl rfl (r_move (f.eval rfl)) (fun a f => ?_)
  refine l_op f rfl rfl rfl (r_assign (f.eval rfl)) (fun a f => ?_)
  refine l_nil ?_
  refine k_ret ?_
  obtain rfl := Option.some.inj hd
  exact ⟨[v_121], ⟨f.get _ _ rfl, trivial⟩, f.defers, _, [it_122], hl_125, m, _, _, rfl, rfl, o_123⟩

theorem Wk.spec_l9Part {W w : World} {G : GH} {H : List Itm} {v0 : Value} {v1 : Value} {x0 : (List Int)} {x1 : (List Int)} (m : Mem W G w (H)) (h0 : RSl (RI .i64) G v0 x0) (h1 : RSl (RI .i64) G v1 x1) {y : Bool} (hd : D.spec_l9Part x0 x1 = some y) :
  Calls Tryd.prog 236 #[v0, v1] w (Res W G H (fun _ Ho v => Ho = [] ∧ v = (.bool y))) := by
 refine calls_b (args := [v0, v1]) (N := 12) [.tmp 4] Tryd.func236 rfl rfl (Nat.le_of_ble_eq_true rfl) rfl (fun a f => ?_)
 unfold D.spec_l9Part at hd
 refine k_seq ?_
 refine k_region ?_
 refine l_op f rfl rfl rfl (r_assign (f.eval rfl)) (fun a f => ?_)
 refine l_nil ?_
 refine k_seq ?_
 refine k_region ?_
 refine l_op f rfl rfl rfl (r_move (f.eval rfl)) (fun a f => ?_)
 refine l_op f rfl rfl rfl (r_move (f.eval rfl)) (fun a f => ?_)
 obtain ⟨y_1, hy_2, hd⟩ := bind_some hd
 refine l_res f rfl rfl Tryd.call286 (Wk.spec_l8Meet m h0 h1 hy_2) (fun v_6 G_3 Ho_7 w hl_4 m hQ_5 a f => ?_)
 obtain ⟨v_8, it_9, rfl, rfl, o_10⟩ := hQ_5
 have h0 := RSl.mono (RI.mono _) _ _ _ _ hl_4 h0
 have h1 := RSl.mono (RI.mono _) _ _ _ _ hl_4 h1
 have m : Mem W G_3 w (it_9 :: H) := m
 refine l_own_len 0 m o_10 rfl Tryd.underlying25 f rfl rfl (fun a f => ?_)
 refine l_op f rfl rfl rfl (r_move (f.eval rfl)) (fun a f => ?_)
 refine l_len Tryd.underlying25 f rfl rfl h0 (fun a f => ?_)
 refine l_op f rfl rfl rfl (r_int (f.eval rfl) (f.eval rfl) b_eql) (fun a f => ?_)
 refine l_op f rfl rfl rfl (r_assign (f.eval rfl)) (fun a f => ?_)
 refine l_nil ?_
 refine k_ret ?_
 have m : Mem W G_3 w H := Mem.drop (H' := [it_9]) m
 obtain rfl := Option.some.inj hd
 exact ⟨[(.bool ((y_1.length : Int) == (x0.length : Int)))], ⟨f.get _ _ rfl, trivial⟩, f.defers, _, [], hl_4, m, rfl, rfl⟩

theorem Wk.spec_l9In {W w : World} {G : GH} {H : List Itm} {v0_0 : Value} {v0_1 : Value} {v1 : Value} {x0_0 : (List (List Int))} {x0_1 : (List (List Int))} {x1 : (List Int)} (m : Mem W G w (H)) (h0_0 : RSl (RSl (RI .i64)) G v0_0 x0_0) (h0_1 : RSl (RSl (RI .i64)) G v0_1 x0_1) (h1 : RSl (RI .i64) G v1 x1) {y : Bool} (hd : D.spec_l9In x0_0 x0_1 x1 = some y) :
  Calls Tryd.prog 160 #[(.agg #[v0_0, v0_1]), v1] w (Res W G H (fun _ Ho v => Ho = [] ∧ v = (.bool y))) := by
 refine calls_b (args := [(.agg #[v0_0, v0_1]), v1]) (N := 20) [.tmp 4] Tryd.func160 rfl rfl (Nat.le_of_ble_eq_true rfl) rfl (fun a f => ?_)
 unfold D.spec_l9In at hd
 refine k_seq ?_
 refine k_region ?_
 refine l_box (cs := [v0_0, v0_1]) m f rfl rfl rfl (fun b_2 w a m f => ?_)
 refine l_op f rfl rfl rfl (r_assign (f.eval rfl)) (fun a f => ?_)
 refine l_nil ?_
 refine k_seq ?_
 refine k_seq ?_
 refine k_region ?_
 refine l_op f rfl rfl rfl (r_assign (f.eval rfl)) (fun a f => ?_)
 refine l_nil ?_
 obtain ⟨q_35, hl_36, hd⟩ := bind_some hd
 refine k_cut (fun a w => ∃ q_35' : Unit, q_35 = .inl q_35' ∧ ∃ (G_59 : GH), GLe G G_59 ∧ Fr a 20 [] ∧ Mem W G_59 w (H)) ?_ ?_
 ·refine k_block ?_
  refine k_loop (fun s_39 a w => ∃ x_42 : Int, x_42 = s_39 ∧ ∃ (G_41 : GH), GLe G G_41 ∧ Fr a 20 [(1, v1), (2, (.pointer (some ⟨b_2, 0, none⟩))), (5, (.int .i64 x_42))] ∧ Mem W G_41 w (Itm.box b_2 28 [v0_0, v0_1] :: H)) hl_36 ⟨_, rfl, _, (GLe.refl _), f.weak ⟨rfl, rfl, rfl, trivial⟩, m⟩ ?_
  clear hl_36 f m
  rintro s_39 o_40 hs_37 hq_38 a w ⟨x_42, rfl, G_41, hl_43, f, m⟩
  have h1 := RSl.mono (RI.mono _) _ _ _ _ hl_43 h1
  have h0_0 := RSl.mono (RSl.mono (RI.mono _)) _ _ _ _ hl_43 h0_0
  have h0_1 := RSl.mono (RSl.mono (RI.mono _)) _ _ _ _ hl_43 h0_1
  refine k_seq ?_
  refine k_seq ?_
  refine k_region ?_
  refine l_op f rfl rfl rfl (r_move (f.eval rfl)) (fun a f => ?_)
  refine l_fieldAddr Tryd.underlying28 rfl Tryd.sizeOf22 (by decide) f rfl rfl (fun a f => ?_)
  refine l_boxCell 0 0 m Pl22 f rfl rfl rfl rfl (fun a f => ?_)
  refine l_len Tryd.underlying22 f rfl rfl h0_0 (fun a f => ?_)
  refine l_op f rfl rfl rfl (r_int (f.eval rfl) (f.eval rfl) b_lss) (fun a f => ?_)
  refine l_nil ?_
  rcases cond_some hs_37 with ⟨hc_61, hs_37⟩ | ⟨hc_61, hs_37⟩
  ·refine k_true f rfl hc_61 ?_
   refine k_skip ?_
   refine k_seq ?_
   refine k_block ?_
   refine k_seq ?_
   refine k_region ?_
   refine l_op f rfl rfl rfl (r_move (f.eval rfl)) (fun a f => ?_)
   refine l_fieldAddr Tryd.underlying28 rfl Tryd.sizeOf22 (by decide) f rfl rfl (fun a f => ?_)
   refine l_boxCell 0 0 m Pl22 f rfl rfl rfl rfl (fun a f => ?_)
   refine l_op f rfl rfl rfl (r_move (f.eval rfl)) (fun a f => ?_)
   obtain ⟨e_62, he_63, hs_37⟩ := bind_some hs_37
   refine l_at T22 f rfl rfl rfl h0_0 he_63 (fun p_64 c_65 a g_66 h_67 f => ?_)
   refine l_loadAt m Pl25 f rfl rfl g_66 (fun a f => ?_)
   obtain ⟨y_68, hy_69, hs_37⟩ := bind_some hs_37
   refine l_res f rfl rfl Tryd.call236 (Wk.spec_l9Part m h1 h_67 hy_69) (fun v_73 G_70 Ho_74 w hl_71 m hQ_72 a f => ?_)
   obtain ⟨rfl, rfl⟩ := hQ_72
   have h1 := RSl.mono (RI.mono _) _ _ _ _ hl_71 h1
   have h0_0 := RSl.mono (RSl.mono (RI.mono _)) _ _ _ _ hl_71 h0_0
   have g_66 := At.mono hl_71 g_66
   have h_67 := RSl.mono (RI.mono _) _ _ _ _ hl_71 h_67
   have h0_1 := RSl.mono (RSl.mono (RI.mono _)) _ _ _ _ hl_71 h0_1
   have m : Mem W G_70 w (Itm.box b_2 28 [v0_0, v0_1] :: H) := m
   refine l_nil ?_
   rcases cond_some hs_37 with ⟨hc_75, hs_37⟩ | ⟨hc_75, hs_37⟩
   ·refine k_true f rfl hc_75 ?_
    refine k_seq ?_
    refine k_region ?_
    refine l_op f rfl rfl rfl (r_assign (f.eval rfl)) (fun a f => ?_)
    refine l_nil ?_
    refine k_ret ?_
    have m : Mem W G_70 w H := Mem.drop (H' := [Itm.box b_2 28 [v0_0, v0_1]]) m
    obtain rfl := Option.some.inj hs_37
    obtain rfl := hq_38 _ rfl
    obtain rfl := Option.some.inj hd
    exact ⟨[(.bool true)], ⟨f.get _ _ rfl, trivial⟩, f.defers, _, [], (GLe.trans hl_43 hl_71), m, rfl, rfl⟩
   ·refine k_false f rfl hc_75 ?_
    refine k_skip ?_
    refine k_region ?_
    refine l_op f rfl rfl rfl (r_move (f.eval rfl)) (fun a f => ?_)
    refine l_op f rfl rfl rfl (r_int (f.eval rfl) (f.eval rfl) b_add) (fun a f => ?_)
    refine l_op f rfl rfl rfl (r_assign (f.eval rfl)) (fun a f => ?_)
    refine l_nil ?_
    obtain rfl := Option.some.inj hs_37
    exact ⟨_, rfl, _, rfl, _, (GLe.trans hl_43 hl_71), f.weak ⟨rfl, rfl, rfl, trivial⟩, m⟩
  ·refine k_false f rfl hc_61 ?_
   refine k_exit rfl ?_
   have m : Mem W G_41 w H := Mem.drop (H' := [Itm.box b_2 28 [v0_0, v0_1]]) m
   obtain rfl := Option.some.inj hs_37
   obtain rfl := hq_38 _ rfl
   exact ⟨_, rfl, _, hl_43, f.weak trivial, m⟩
 ·rintro a w ⟨_, rfl, G_59, hl_60, f, m⟩
  refine k_seq ?_
  refine k_region ?_
  refine l_op f rfl rfl rfl (r_assign (f.eval rfl)) (fun a f => ?_)
  refine l_nil ?_
  refine k_ret ?_
  obtain rfl := Option.some.inj hd
  exact ⟨[(.bool false)], ⟨f.get _ _ rfl, trivial⟩, f.defers, _, [], hl_60, m, rfl, rfl⟩

theorem Wk.spec_l9With {W w : World} {G : GH} {H : List Itm} {v0_0 : Value} {v0_1 : Value} {x0_0 : (List (List Int))} {x0_1 : (List (List Int))} {x1 : Int} (m : Mem W G w (H)) (h0_0 : RSl (RSl (RI .i64)) G v0_0 x0_0) (h0_1 : RSl (RSl (RI .i64)) G v0_1 x0_1) {y : ((List Int))} (hd : D.spec_l9With x0_0 x0_1 x1 = some y) :
  Calls Tryd.prog 161 #[(.agg #[v0_0, v0_1]), (.int .i64 x1)] w (Res W G H (fun G' Ho v => ∃ r0 : Value, ∃ i0 : Itm, Ho = [i0] ∧ r0 = v ∧ Ow (RI .i64) 2 G' i0 r0 y)) := by
 refine calls_b (args := [(.agg #[v0_0, v0_1]), (.int .i64 x1)]) (N := 27) [.tmp 4] Tryd.func161 rfl rfl (Nat.le_of_ble_eq_true rfl) rfl (fun a f => ?_)
 unfold D.spec_l9With at hd
 refine k_seq ?_
 refine k_region ?_
 refine l_box (cs := [v0_0, v0_1]) m f rfl rfl rfl (fun b_2 w a m f => ?_)
 refine l_op f rfl rfl rfl (r_assign (f.eval rfl)) (fun a f => ?_)
 refine l_nil ?_
 refine k_seq ?_
 refine k_region ?_
 refine l_slit (R := (RI .i64)) (xs := ([] : List Int)) (RI.one _) m T25 f rfl rfl rfl (by decide) (All2.nil _) (fun it_3 v_4 w a m o_5 f => ?_)
 refine l_op f rfl rfl rfl (r_assign (f.eval rfl)) (fun a f => ?_)
 refine l_nil ?_
 refine k_seq ?_
 refine k_seq ?_
 refine k_region ?_
 refine l_op f rfl rfl rfl (r_assign (f.eval rfl)) (fun a f => ?_)
 refine l_nil ?_
 obtain ⟨q_64, hl_65, hd⟩ := bind_some hd
 refine k_cut (fun a w => ∃ l_104 : List Int, l_104 = q_64 ∧ ∃ (G_103 : GH) (v_105 : Value) (it_106 : Itm), GLe G G_103 ∧ Fr a 27 [(5, v_105)] ∧ Mem W G_103 w (it_106 :: H) ∧ Ow (RI .i64) 2 G_103 it_106 v_105 l_104) ?_ ?_
 ·refine k_block ?_
  have m : Mem W G w (Itm.box b_2 28 [v0_0, v0_1] :: it_3 :: H) := m.front 1 rfl
  refine k_loop (fun s_68 a w => ∃ l_71 : List Int, ∃ x_76 : Int, (l_71, x_76) = s_68 ∧ ∃ (G_70 : GH) (v_72 : Value) (it_73 : Itm), GLe G G_70 ∧ Fr a 27 [(1, (.int .i64 x1)), (2, (.pointer (some ⟨b_2, 0, none⟩))), (5, v_72), (6, (.int .i64 x_76))] ∧ Mem W G_70 w (Itm.box b_2 28 [v0_0, v0_1] :: it_73 :: H) ∧ Ow (RI .i64) 2 G_70 it_73 v_72 l_71) hl_65 ⟨_, _, rfl, _, v_4, it_3, (GLe.refl _), f.weak ⟨rfl, rfl, rfl, rfl, trivial⟩, m, o_5⟩ ?_
  clear hl_65 f m
  rintro s_68 o_69 hs_66 hq_67 a w ⟨l_71, x_76, rfl, G_70, v_72, it_73, hl_77, f, m, o_74⟩
  have h0_0 := RSl.mono (RSl.mono (RI.mono _)) _ _ _ _ hl_77 h0_0
  have h0_1 := RSl.mono (RSl.mono (RI.mono _)) _ _ _ _ hl_77 h0_1
  refine k_seq ?_
  refine k_seq ?_
  refine k_region ?_
  refine l_op f rfl rfl rfl (r_move (f.eval rfl)) (fun a f => ?_)
  refine l_fieldAddr Tryd.underlying28 rfl Tryd.sizeOf22 (by decide) f rfl rfl (fun a f => ?_)
  refine l_boxCell 0 0 m Pl22 f rfl rfl rfl rfl (fun a f => ?_)
  refine l_len Tryd.underlying22 f rfl rfl h0_0 (fun a f => ?_)
  refine l_op f rfl rfl rfl (r_int (f.eval rfl) (f.eval rfl) b_lss) (fun a f => ?_)
  refine l_nil ?_
  rcases cond_some hs_66 with ⟨hc_110, hs_66⟩ | ⟨hc_110, hs_66⟩
  ·refine k_true f rfl hc_110 ?_
   refine k_skip ?_
   refine k_seq ?_
   refine k_block ?_
   refine k_seq ?_
   refine k_region ?_
   refine l_fieldAddr Tryd.underlying28 rfl Tryd.sizeOf22 (by decide) f rfl rfl (fun a f => ?_)
   refine l_boxCell 0 0 m Pl22 f rfl rfl rfl rfl (fun a f => ?_)
   refine l_op f rfl rfl rfl (r_move (f.eval rfl)) (fun a f => ?_)
   obtain ⟨e_111, he_112, hs_66⟩ := bind_some hs_66
   refine l_at T22 f rfl rfl rfl h0_0 he_112 (fun p_113 c_114 a g_115 h_116 f => ?_)
   refine l_loadAt m Pl25 f rfl rfl g_115 (fun a f => ?_)
   refine l_op f rfl rfl rfl (r_move (f.eval rfl)) (fun a f => ?_)
   obtain ⟨y_117, hy_118, hs_66⟩ := bind_some hs_66
   refine l_res f rfl rfl Tryd.call111 (Wk.spec_l1Has m h_116 hy_118) (fun v_122 G_119 Ho_123 w hl_120 m hQ_121 a f => ?_)
   obtain ⟨rfl, rfl⟩ := hQ_121
   have h0_0 := RSl.mono (RSl.mono (RI.mono _)) _ _ _ _ hl_120 h0_0
   have g_115 := At.mono hl_120 g_115
   have h_116 := RSl.mono (RI.mono _) _ _ _ _ hl_120 h_116
   have h0_1 := RSl.mono (RSl.mono (RI.mono _)) _ _ _ _ hl_120 h0_1
   have o_74 := Ow.mono (RI.mono _) hl_120 o_74
   have m : Mem W G_119 w (Itm.box b_2 28 [v0_0, v0_1] :: it_73 :: H) := m
   refine l_nil ?_
   rcases cond_some hs_66 with ⟨hc_124, hs_66⟩ | ⟨hc_124, hs_66⟩
   ·refine k_true f rfl hc_124 ?_
    refine k_region ?_
    refine l_op f rfl rfl rfl (r_move (f.eval rfl)) (fun a f => ?_)
    refine l_op f rfl rfl rfl (r_move (f.eval rfl)) (fun a f => ?_)
    refine l_slit (R := (RI .i64)) (xs := ([x_76] : List Int)) (RI.one _) m T25 f rfl rfl rfl (by decide) (All2.cons rfl (All2.nil _)) (fun it_125 v_126 w a m o_127 f => ?_)
    obtain ⟨l_129, hx_130, hs_66⟩ := bind_some hs_66
    refine l_append (RI.one _) 2 m o_74 rfl T25 rfl (by decide) f rfl rfl rfl (Ow.src (j := 0) o_127 m rfl) hx_130 (fun it_131 v_132 w a m o_133 f => ?_)
    have m : Mem W G_119 w (it_125 :: Itm.box b_2 28 [v0_0, v0_1] :: it_131 :: H) := m
    refine l_op f rfl rfl rfl (r_assign (f.eval rfl)) (fun a f => ?_)
    refine l_nil ?_
    refine k_region ?_
    refine l_op f rfl rfl rfl (r_move (f.eval rfl)) (fun a f => ?_)
    refine l_op f rfl rfl rfl (r_int (f.eval rfl) (f.eval rfl) b_add) (fun a f => ?_)
    refine l_op f rfl rfl rfl (r_assign (f.eval rfl)) (fun a f => ?_)
    refine l_nil ?_
    have m : Mem W G_119 w (it_131 :: it_125 :: Itm.box b_2 28 [v0_0, v0_1] :: H) := m.front 2 rfl
    have m : Mem W G_119 w (Itm.box b_2 28 [v0_0, v0_1] :: it_131 :: it_125 :: H) := m.front 2 rfl
    have m : Mem W G_119 w (Itm.box b_2 28 [v0_0, v0_1] :: it_131 :: H) := m.eraseAt 2
    obtain rfl := Option.some.inj hs_66
    exact ⟨_, rfl, _, _, rfl, _, v_132, it_131, (GLe.trans hl_77 hl_120), f.weak ⟨rfl, rfl, rfl, rfl, trivial⟩, m, o_133⟩
   ·refine k_false f rfl hc_124 ?_
    refine k_skip ?_
    refine k_region ?_
    refine l_op f rfl rfl rfl (r_move (f.eval rfl)) (fun a f => ?_)
    refine l_op f rfl rfl rfl (r_int (f.eval rfl) (f.eval rfl) b_add) (fun a f => ?_)
    refine l_op f rfl rfl rfl (r_assign (f.eval rfl)) (fun a f => ?_)
    refine l_nil ?_
    have m : Mem W G_119 w (it_73 :: Itm.box b_2 28 [v0_0, v0_1] :: H) := m.front 1 rfl
    have m : Mem W G_119 w (Itm.box b_2 28 [v0_0, v0_1] :: it_73 :: H) := m.front 1 rfl
    obtain rfl := Option.some.inj hs_66
    exact ⟨_, rfl, _, _, rfl, _, v_72, it_73, (GLe.trans hl_77 hl_120), f.weak ⟨rfl, rfl, rfl, rfl, trivial⟩, m, o_74⟩
  ·refine k_false f rfl hc_110 ?_
   refine k_exit rfl ?_
   have m : Mem W G_70 w (it_73 :: Itm.box b_2 28 [v0_0, v0_1] :: H) := m.front 1 rfl
   have m : Mem W G_70 w (it_73 :: H) := m.eraseAt 1
   obtain rfl := Option.some.inj hs_66
   obtain rfl := hq_67 _ rfl
   exact ⟨_, rfl, _, v_72, it_73, hl_77, f.weak ⟨rfl, trivial⟩, m, o_74⟩
 ·rintro a w ⟨l_104, rfl, G_103, v_105, it_106, hl_109, f, m, o_107⟩
  refine k_seq ?_
  refine k_region ?_
  refine l_op f rfl rfl rfl (r_move (f.eval rfl)) (fun a f => ?_)
  refine l_op f rfl rfl rfl (r_assign (f.eval rfl)) (fun a f => ?_)
  refine l_nil ?_
  refine k_ret ?_
  obtain rfl := Option.some.inj hd
  exact ⟨[v_105], ⟨f.get _ _ rfl, trivial⟩, f.defers, _, [it_106], hl_109, m, _, _, rfl, rfl, o_107⟩

theorem Wk.spec_DecompOk {W w : World} {G : GH} {H : List Itm} {v0_0 : Value} {v1_0 : Value} {v1_1 : Value} {x0_0 : (List (List Int))} {x1_0 : (List (List Int))} {x1_1 : (List (List Int))} (m : Mem W G w (H)) (h0_0 : RSl (RSl (RI .i64)) G v0_0 x0_0) (h1_0 : RSl (RSl (RI .i64)) G v1_0 x1_0) (h1_1 : RSl (RSl (RI .i64)) G v1_1 x1_1) {y : Bool} (hd : D.spec_DecompOk x0_0 x1_0 x1_1 = some y) :
  Calls Tryd.prog 69 #[(.agg #[v0_0]), (.agg #[v1_0, v1_1])] w (Res W G H (fun _ Ho v => Ho = [] ∧ v = (.bool y))) := by
 refine calls_b (args := [(.agg #[v0_0]), (.agg #[v1_0, v1_1])]) (N := 69) [.tmp 4] Tryd.func69 rfl rfl (Nat.le_of_ble_eq_true rfl) rfl (fun a f => ?_)
 unfold D.spec_DecompOk at hd
 refine k_seq ?_
 refine k_region ?_
 refine l_box (cs := [v0_0]) m f rfl rfl rfl (fun b_2 w a m f => ?_)
 refine l_box (cs := [v1_0, v1_1]) m f rfl rfl rfl (fun b_4 w a m f => ?_)
 refine l_op f rfl rfl rfl (r_assign (f.eval rfl)) (fun a f => ?_)
 refine l_nil ?_
 refine k_seq ?_
 refine k_seq ?_
 refine k_region ?_
 refine l_boxAgg 1 0 (ds := [v0_0]) m Ag31 f rfl rfl rfl rfl rfl (fun a f => ?_)
 obtain ⟨y_5, hy_6, hd⟩ := bind_some hd
 refine l_res f rfl rfl Tryd.call35 (Wk.spec_GraphOk m h0_0 hy_6) (fun v_10 G_7 Ho_11 w hl_8 m hQ_9 a f => ?_)
 obtain ⟨rfl, rfl⟩ := hQ_9
 have h0_0 := RSl.mono (RSl.mono (RI.mono _)) _ _ _ _ hl_8 h0_0
 have h1_0 := RSl.mono (RSl.mono (RI.mono _)) _ _ _ _ hl_8 h1_0
 have h1_1 := RSl.mono (RSl.mono (RI.mono _)) _ _ _ _ hl_8 h1_1
 have m : Mem W G_7 w (Itm.box b_4 28 [v1_0, v1_1] :: Itm.box b_2 31 [v0_0] :: H) := m
 refine l_op f rfl rfl rfl (r_not (f.eval rfl)) (fun a f => ?_)
 refine l_op f rfl rfl rfl (r_move (f.eval rfl)) (fun a f => ?_)
 obtain ⟨b_29, hj_30, hd⟩ := bind_some hd
 refine l_cut 4 (fun a w => ∃ G_27, GLe G_7 G_27 ∧ Mem W G_27 w (Itm.box b_4 28 [v1_0, v1_1] :: Itm.box b_2 31 [v0_0] :: H) ∧ Fr a 69 [(0, (.agg #[v0_0])), (1, (.agg #[v1_0, v1_1])), (2, (.pointer (some ⟨b_2, 0, none⟩))), (3, (.pointer (some ⟨b_4, 0, none⟩))), (10, (.agg #[v0_0])), (11, (.bool y_5)), (12, (.bool (!y_5))), (13, (.bool (!y_5))), (17, (.bool b_29))]) ?_ ?_
 ·rcases cond_some hj_30 with ⟨hc_12, hj_30⟩ | ⟨hc_12, hj_30⟩
  ·refine l_not' f rfl rfl rfl hc_12 (fun a f => ?_)
   refine l_not' f rfl rfl rfl hc_12 (fun a f => ?_)
   refine l_not' f rfl rfl rfl hc_12 (fun a f => ?_)
   refine l_op f rfl rfl rfl (r_pickT (f.eval rfl) hc_12 (f.eval rfl)) (fun a f => ?_)
   obtain rfl := Option.some.inj hj_30
   have m : Mem W G_7 w (Itm.box b_2 31 [v0_0] :: Itm.box b_4 28 [v1_0, v1_1] :: H) := m.front 1 rfl
   have m : Mem W G_7 w (Itm.box b_4 28 [v1_0, v1_1] :: Itm.box b_2 31 [v0_0] :: H) := m.front 1 rfl
   exact ⟨_, (GLe.refl _), m, f.weak ⟨rfl, rfl, rfl, rfl, rfl, rfl, rfl, rfl, rfl, trivial⟩⟩
  ·refine l_run f rfl rfl hc_12 ?_
   refine l_boxAgg 0 0 (ds := [v1_0, v1_1]) m Ag28 f rfl rfl rfl rfl rfl (fun a f => ?_)
   refine l_run f rfl rfl hc_12 ?_
   obtain ⟨y_31, hy_32, hj_30⟩ := bind_some hj_30
   refine l_res f rfl rfl Tryd.call159 (Wk.spec_l9Tree m h1_0 h1_1 hy_32) (fun v_36 G_33 Ho_37 w hl_34 m hQ_35 a f => ?_)
   obtain ⟨rfl, rfl⟩ := hQ_35
   have h0_0 := RSl.mono (RSl.mono (RI.mono _)) _ _ _ _ hl_34 h0_0
   have h1_0 := RSl.mono (RSl.mono (RI.mono _)) _ _ _ _ hl_34 h1_0
   have h1_1 := RSl.mono (RSl.mono (RI.mono _)) _ _ _ _ hl_34 h1_1
   have m : Mem W G_33 w (Itm.box b_4 28 [v1_0, v1_1] :: Itm.box b_2 31 [v0_0] :: H) := m
   refine l_run f rfl rfl hc_12 ?_
   refine l_op f rfl rfl rfl (r_not (f.eval rfl)) (fun a f => ?_)
   refine l_op f rfl rfl rfl (r_pickF (f.eval rfl) hc_12 (f.eval rfl)) (fun a f => ?_)
   obtain rfl := Option.some.inj hj_30
   have m : Mem W G_33 w (Itm.box b_2 31 [v0_0] :: Itm.box b_4 28 [v1_0, v1_1] :: H) := m.front 1 rfl
   have m : Mem W G_33 w (Itm.box b_4 28 [v1_0, v1_1] :: Itm.box b_2 31 [v0_0] :: H) := m.front 1 rfl
   exact ⟨_, hl_34, m, f.weak ⟨rfl, rfl, rfl, rfl, rfl, rfl, rfl, rfl, rfl, trivial⟩⟩
 ·rintro a w ⟨G_27, hl_28, m, f⟩
  have h0_0 := RSl.mono (RSl.mono (RI.mono _)) _ _ _ _ hl_28 h0_0
  have h1_0 := RSl.mono (RSl.mono (RI.mono _)) _ _ _ _ hl_28 h1_0
  have h1_1 := RSl.mono (RSl.mono (RI.mono _)) _ _ _ _ hl_28 h1_1
  refine l_nil ?_
  rcases cond_some hd with ⟨hc_38, hd⟩ | ⟨hc_38, hd⟩
  ·refine k_true f rfl hc_38 ?_
   refine k_seq ?_
   refine k_region ?_
   refine l_op f rfl rfl rfl (r_assign (f.eval rfl)) (fun a f => ?_)
   refine l_nil ?_
   refine k_ret ?_
   have m : Mem W G_27 w H := Mem.drop (H' := [Itm.box b_4 28 [v1_0, v1_1], Itm.box b_2 31 [v0_0]]) m
   obtain rfl := Option.some.inj hd
   exact ⟨[(.bool false)], ⟨f.get _ _ rfl, trivial⟩, f.defers, _, [], (GLe.trans hl_8 hl_28), m, rfl, rfl⟩
  ·refine k_false f rfl hc_38 ?_
   refine k_skip ?_
   refine k_seq ?_
   refine k_seq ?_
   refine k_region ?_
   refine l_op f rfl rfl rfl (r_assign (f.eval rfl)) (fun a f => ?_)
   refine l_nil ?_
   obtain ⟨q_73, hl_74, hd⟩ := bind_some hd
   refine k_cut (fun a w => ∃ q_73' : Unit, q_73 = .inl q_73' ∧ ∃ (G_98 : GH), GLe G_27 G_98 ∧ Fr a 69 [(2, (.pointer (some ⟨b_2, 0, none⟩))), (3, (.pointer (some ⟨b_4, 0, none⟩)))] ∧ Mem W G_98 w (Itm.box b_2 31 [v0_0] :: Itm.box b_4 28 [v1_0, v1_1] :: H)) ?_ ?_
   ·refine k_block ?_
    have m : Mem W G_27 w (Itm.box b_2 31 [v0_0] :: Itm.box b_4 28 [v1_0, v1_1] :: H) := m.front 1 rfl
    refine k_loop (fun s_77 a w => ∃ x_80 : Int, x_80 = s_77 ∧ ∃ (G_79 : GH), GLe G_27 G_79 ∧ Fr a 69 [(2, (.pointer (some ⟨b_2, 0, none⟩))), (3, (.pointer (some ⟨b_4, 0, none⟩))), (5, (.int .i64 x_80))] ∧ Mem W G_79 w (Itm.box b_2 31 [v0_0] :: Itm.box b_4 28 [v1_0, v1_1] :: H)) hl_74 ⟨_, rfl, _, (GLe.refl _), f.weak ⟨rfl, rfl, rfl, trivial⟩, m⟩ ?_
    clear hl_74 f m
    rintro s_77 o_78 hs_75 hq_76 a w ⟨x_80, rfl, G_79, hl_81, f, m⟩
    have h0_0 := RSl.mono (RSl.mono (RI.mono _)) _ _ _ _ hl_81 h0_0
    have h1_0 := RSl.mono (RSl.mono (RI.mono _)) _ _ _ _ hl_81 h1_0
    have h1_1 := RSl.mono (RSl.mono (RI.mono _)) _ _ _ _ hl_81 h1_1
    refine k_seq ?_
    refine k_seq ?_
    refine k_region ?_
    refine l_op f rfl rfl rfl (r_move (f.eval rfl)) (fun a f => ?_)
    refine l_fieldAddr Tryd.underlying28 rfl Tryd.sizeOf22 (by decide) f rfl rfl (fun a f => ?_)
    refine l_boxCell 1 0 m Pl22 f rfl rfl rfl rfl (fun a f => ?_)
    refine l_len Tryd.underlying22 f rfl rfl h1_0 (fun a f => ?_)
    refine l_op f rfl rfl rfl (r_int (f.eval rfl) (f.eval rfl) b_lss) (fun a f => ?_)
    refine l_nil ?_
    rcases cond_some hs_75 with ⟨hc_100, hs_75⟩ | ⟨hc_100, hs_75⟩
    ·refine k_true f rfl hc_100 ?_
     refine k_skip ?_
     refine k_seq ?_
     refine k_block ?_
     refine k_seq ?_
     refine k_draw 9 Follows (by kernel_rfl) m ?_
     refine q_fieldAddr (i := 0) (listed' := #[true, false, false, false, false, false, false, false, false]) 9 Tryd.underlying28 rfl Tryd.sizeOf22 (by decide) rfl (by kernel_rfl) rfl f rfl rfl rfl (fun a f => ?_)
     refine q_boxCell (i := 1) (listed' := #[true, true, false, false, false, false, false, false, false]) 9 1 Pl22 rfl rfl rfl (by kernel_rfl) rfl f rfl rfl rfl (fun a f => ?_)
     refine q_op (i := 2) (listed' := #[true, true, true, false, false, false, false, false, false]) 9 rfl (by kernel_rfl) rfl f rfl rfl rfl (fun _ _ _ _ _ => r_move (f.eval rfl)) (fun a f => ?_)
     obtain ⟨e_101, he_102, hs_75⟩ := bind_some hs_75
     refine q_at (i := 3) (listed' := #[true, true, true, true, false, false, false, false, false]) 9 T22 h1_0 he_102 rfl (by kernel_rfl) rfl f rfl rfl rfl rfl (fun p_103 c_104 a g_105 h_106 f => ?_)
     refine q_loadAt (i := 4) (listed' := #[true, true, true, true, true, false, false, false, false]) 9 Pl25 g_105 rfl (by kernel_rfl) rfl f rfl rfl rfl (fun a f => ?_)
     refine q_boxAgg (i := 5) (listed' := #[true, true, true, true, true, true, false, false, false]) (ds := [v0_0]) 9 0 Ag31 rfl rfl rfl rfl (by kernel_rfl) rfl f rfl rfl rfl (fun a f => ?_)
     obtain ⟨y_107, hy_108, hs_75⟩ := bind_some hs_75
     refine q_call (i := 6) (listed' := #[true, true, true, true, true, true, true, false, false]) 9 rfl (by kernel_rfl) rfl f rfl rfl rfl Tryd.call108 (fun _ _ w hG_109 m => Wk.spec_l1Size m (RSl.mono (RSl.mono (RI.mono _)) _ _ _ _ hG_109 h0_0) hy_108) (fun a f => ?_)
     obtain ⟨y_110, hy_111, hs_75⟩ := bind_some hs_75
     refine q_call (i := 7) (listed' := #[true, true, true, true, true, true, true, true, false]) 9 rfl (by kernel_rfl) rfl f rfl rfl rfl Tryd.call110 (fun _ _ w hG_112 m => Wk.spec_l1Set m (RSl.mono (RI.mono _) _ _ _ _ hG_112 h_106) hy_111) (fun a f => ?_)
     refine q_op (i := 8) (listed' := #[true, true, true, true, true, true, true, true, true]) 9 rfl (by kernel_rfl) rfl f rfl rfl rfl (fun _ _ _ _ _ => r_not (f.eval rfl)) (fun a f => ?_)
     refine q_end (fun G_113 w hl_114 m => ?_)
     have h1_0 := RSl.mono (RSl.mono (RI.mono _)) _ _ _ _ hl_114 h1_0
     have g_105 := At.mono hl_114 g_105
     have h_106 := RSl.mono (RI.mono _) _ _ _ _ hl_114 h_106
     have h0_0 := RSl.mono (RSl.mono (RI.mono _)) _ _ _ _ hl_114 h0_0
     have h1_1 := RSl.mono (RSl.mono (RI.mono _)) _ _ _ _ hl_114 h1_1
     have m : Mem W G_113 w (Itm.box b_2 31 [v0_0] :: Itm.box b_4 28 [v1_0, v1_1] :: H) := m
     refine l_nil ?_
     rcases cond_some hs_75 with ⟨hc_115, hs_75⟩ | ⟨hc_115, hs_75⟩
     ·refine k_true f rfl hc_115 ?_
      refine k_seq ?_
      refine k_region ?_
      refine l_op f rfl rfl rfl (r_assign (f.eval rfl)) (fun a f => ?_)
      refine l_nil ?_
      refine k_ret ?_
      have m : Mem W G_113 w H := Mem.drop (H' := [Itm.box b_2 31 [v0_0], Itm.box b_4 28 [v1_0, v1_1]]) m
      obtain rfl := Option.some.inj hs_75
      obtain rfl := hq_76 _ rfl
      obtain rfl := Option.some.inj hd
      exact ⟨[(.bool false)], ⟨f.get _ _ rfl, trivial⟩, f.defers, _, [], (GLe.trans hl_8 (GLe.trans hl_28 (GLe.trans hl_81 hl_114))), m, rfl, rfl⟩
     ·refine k_false f rfl hc_115 ?_
      refine k_skip ?_
      refine k_region ?_
      refine l_op f rfl rfl rfl (r_move (f.eval rfl)) (fun a f => ?_)
      refine l_op f rfl rfl rfl (r_int (f.eval rfl) (f.eval rfl) b_add) (fun a f => ?_)
      refine l_op f rfl rfl rfl (r_assign (f.eval rfl)) (fun a f => ?_)
      refine l_nil ?_
      have m : Mem W G_113 w (Itm.box b_4 28 [v1_0, v1_1] :: Itm.box b_2 31 [v0_0] :: H) := m.front 1 rfl
      have m : Mem W G_113 w (Itm.box b_2 31 [v0_0] :: Itm.box b_4 28 [v1_0, v1_1] :: H) := m.front 1 rfl
      obtain rfl := Option.some.inj hs_75
      exact ⟨_, rfl, _, rfl, _, (GLe.trans hl_81 hl_114), f.weak ⟨rfl, rfl, rfl, trivial⟩, m⟩
    ·refine k_false f rfl hc_100 ?_
     refine k_exit rfl ?_
     have m : Mem W G_79 w (Itm.box b_4 28 [v1_0, v1_1] :: Itm.box b_2 31 [v0_0] :: H) := m.front 1 rfl
     have m : Mem W G_79 w (Itm.box b_2 31 [v0_0] :: Itm.box b_4 28 [v1_0, v1_1] :: H) := m.front 1 rfl
     obtain rfl := Option.some.inj hs_75
     obtain rfl := hq_76 _ rfl
     exact ⟨_, rfl, _, hl_81, f.weak ⟨rfl, rfl, trivial⟩, m⟩
   ·rintro a w ⟨_, rfl, G_98, hl_99, f, m⟩
    have h0_0 := RSl.mono (RSl.mono (RI.mono _)) _ _ _ _ hl_99 h0_0
    have h1_0 := RSl.mono (RSl.mono (RI.mono _)) _ _ _ _ hl_99 h1_0
    have h1_1 := RSl.mono (RSl.mono (RI.mono _)) _ _ _ _ hl_99 h1_1
    refine k_seq ?_
    refine k_region ?_
    refine l_boxAgg 0 0 (ds := [v0_0]) m Ag31 f rfl rfl rfl rfl rfl (fun a f => ?_)
    obtain ⟨y_116, hy_117, hd⟩ := bind_some hd
    refine l_res f rfl rfl Tryd.call113 (Wk.spec_l1Edges m h0_0 hy_117) (fun v_121 G_118 Ho_122 w hl_119 m hQ_120 a f => ?_)
    obtain ⟨v_123, it_124, rfl, rfl, o_125⟩ := hQ_120
    have h0_0 := RSl.mono (RSl.mono (RI.mono _)) _ _ _ _ hl_119 h0_0
    have h1_0 := RSl.mono (RSl.mono (RI.mono _)) _ _ _ _ hl_119 h1_0
    have h1_1 := RSl.mono (RSl.mono (RI.mono _)) _ _ _ _ hl_119 h1_1
    have m : Mem W G_118 w (it_124 :: Itm.box b_2 31 [v0_0] :: Itm.box b_4 28 [v1_0, v1_1] :: H) := m
    refine l_op f rfl rfl rfl (r_assign (f.eval rfl)) (fun a f => ?_)
    refine l_nil ?_
    refine k_seq ?_
    refine k_seq ?_
    refine k_region ?_
    refine l_op f rfl rfl rfl (r_assign (f.eval rfl)) (fun a f => ?_)
    refine l_nil ?_
    obtain ⟨q_155, hl_156, hd⟩ := bind_some hd
    refine k_cut (fun a w => ∃ q_155' : Unit, q_155 = .inl q_155' ∧ ∃ (G_177 : GH), GLe G_118 G_177 ∧ Fr a 69 [(2, (.pointer (some ⟨b_2, 0, none⟩))), (3, (.pointer (some ⟨b_4, 0, none⟩)))] ∧ Mem W G_177 w (Itm.box b_2 31 [v0_0] :: Itm.box b_4 28 [v1_0, v1_1] :: H)) ?_ ?_
    ·refine k_block ?_
     have m : Mem W G_118 w (Itm.box b_4 28 [v1_0, v1_1] :: it_124 :: Itm.box b_2 31 [v0_0] :: H) := m.front 2 rfl
     have m : Mem W G_118 w (Itm.box b_2 31 [v0_0] :: Itm.box b_4 28 [v1_0, v1_1] :: it_124 :: H) := m.front 2 rfl
     refine k_loop (fun s_159 a w => ∃ x_162 : Int, x_162 = s_159 ∧ ∃ (G_161 : GH), GLe G_118 G_161 ∧ Fr a 69 [(2, (.pointer (some ⟨b_2, 0, none⟩))), (3, (.pointer (some ⟨b_4, 0, none⟩))), (6, v_123), (7, (.int .i64 x_162))] ∧ Mem W G_161 w (Itm.box b_2 31 [v0_0] :: Itm.box b_4 28 [v1_0, v1_1] :: it_124 :: H)) hl_156 ⟨_, rfl, _, (GLe.refl _), f.weak ⟨rfl, rfl, rfl, rfl, trivial⟩, m⟩ ?_
     clear hl_156 f m
     rintro s_159 o_160 hs_157 hq_158 a w ⟨x_162, rfl, G_161, hl_163, f, m⟩
     have h0_0 := RSl.mono (RSl.mono (RI.mono _)) _ _ _ _ hl_163 h0_0
     have h1_0 := RSl.mono (RSl.mono (RI.mono _)) _ _ _ _ hl_163 h1_0
     have h1_1 := RSl.mono (RSl.mono (RI.mono _)) _ _ _ _ hl_163 h1_1
     have o_125 := Ow.mono (RSl.mono (RI.mono _)) hl_163 o_125
     refine k_seq ?_
     refine k_seq ?_
     refine k_region ?_
     refine l_op f rfl rfl rfl (r_move (f.eval rfl)) (fun a f => ?_)
     refine l_op f rfl rfl rfl (r_move (f.eval rfl)) (fun a f => ?_)
     refine l_own_len 2 m o_125 rfl Tryd.underlying22 f rfl rfl (fun a f => ?_)
     refine l_op f rfl rfl rfl (r_int (f.eval rfl) (f.eval rfl) b_lss) (fun a f => ?_)
     refine l_nil ?_
     rcases cond_some hs_157 with ⟨hc_179, hs_157⟩ | ⟨hc_179, hs_157⟩
     ·refine k_true f rfl hc_179 ?_
      refine k_skip ?_
      refine k_seq ?_
      refine k_block ?_
      refine k_seq ?_
      refine k_draw 7 Follows (by kernel_rfl) m ?_
      refine q_boxAgg (i := 0) (listed' := #[true, false, false, false, false, false, false]) (ds := [v1_0, v1_1]) 7 1 Ag28 rfl rfl rfl rfl (by kernel_rfl) rfl f rfl rfl rfl (fun a f => ?_)
      refine q_op (i := 1) (listed' := #[true, true, false, false, false, false, false]) 7 rfl (by kernel_rfl) rfl f rfl rfl rfl (fun _ _ _ _ _ => r_move (f.eval rfl)) (fun a f => ?_)
      refine q_op (i := 2) (listed' := #[true, true, true, false, false, false, false]) 7 rfl (by kernel_rfl) rfl f rfl rfl rfl (fun _ _ _ _ _ => r_move (f.eval rfl)) (fun a f => ?_)
      obtain ⟨e_180, he_181, hs_157⟩ := bind_some hs_157
      refine q_own_at (i := 3) (listed' := #[true, true, true, true, false, false, false]) 7 2 m o_125 rfl T22 he_181 rfl (by kernel_rfl) rfl f rfl rfl rfl rfl (fun p_182 a ha_183 f => ?_)
      refine q_own_load (i := 4) (listed' := #[true, true, true, true, true, false, false]) 7 2 o_125 rfl Pl25 ha_183 he_181 rfl (by kernel_rfl) rfl f rfl rfl rfl (fun c_184 a h_185 f => ?_)
      obtain ⟨y_186, hy_187, hs_157⟩ := bind_some hs_157
      refine q_call (i := 5) (listed' := #[true, true, true, true, true, true, false]) 7 rfl (by kernel_rfl) rfl f rfl rfl rfl Tryd.call160 (fun _ _ w hG_188 m => Wk.spec_l9In m (RSl.mono (RSl.mono (RI.mono _)) _ _ _ _ hG_188 h1_0) (RSl.mono (RSl.mono (RI.mono _)) _ _ _ _ hG_188 h1_1) (RSl.mono (RI.mono _) _ _ _ _ hG_188 h_185) hy_187) (fun a f => ?_)
      refine q_op (i := 6) (listed' := #[true, true, true, true, true, true, true]) 7 rfl (by kernel_rfl) rfl f rfl rfl rfl (fun _ _ _ _ _ => r_not (f.eval rfl)) (fun a f => ?_)
      refine q_end (fun G_189 w hl_190 m => ?_)
      have h1_0 := RSl.mono (RSl.mono (RI.mono _)) _ _ _ _ hl_190 h1_0
      have h1_1 := RSl.mono (RSl.mono (RI.mono _)) _ _ _ _ hl_190 h1_1
      have h_185 := RSl.mono (RI.mono _) _ _ _ _ hl_190 h_185
      have h0_0 := RSl.mono (RSl.mono (RI.mono _)) _ _ _ _ hl_190 h0_0
      have o_125 := Ow.mono (RSl.mono (RI.mono _)) hl_190 o_125
      have m : Mem W G_189 w (Itm.box b_2 31 [v0_0] :: Itm.box b_4 28 [v1_0, v1_1] :: it_124 :: H) := m
      refine l_nil ?_
      rcases cond_some hs_157 with ⟨hc_191, hs_157⟩ | ⟨hc_191, hs_157⟩
      ·refine k_true f rfl hc_191 ?_
       refine k_seq ?_
       refine k_region ?_
       refine l_op f rfl rfl rfl (r_assign (f.eval rfl)) (fun a f => ?_)
       refine l_nil ?_
       refine k_ret ?_
       have m : Mem W G_189 w H := Mem.drop (H' := [Itm.box b_2 31 [v0_0], Itm.box b_4 28 [v1_0, v1_1], it_124]) m
       obtain rfl := Option.some.inj hs_157
       obtain rfl := hq_158 _ rfl
       obtain rfl := Option.some.inj hd
       exact ⟨[(.bool false)], ⟨f.get _ _ rfl, trivial⟩, f.defers, _, [], (GLe.trans hl_8 (GLe.trans hl_28 (GLe.trans hl_99 (GLe.trans hl_119 (GLe.trans hl_163 hl_190))))), m, rfl, rfl⟩
      ·refine k_false f rfl hc_191 ?_
       refine k_skip ?_
       refine k_region ?_
       refine l_op f rfl rfl rfl (r_move (f.eval rfl)) (fun a f => ?_)
       refine l_op f rfl rfl rfl (r_int (f.eval rfl) (f.eval rfl) b_add) (fun a f => ?_)
       refine l_op f rfl rfl rfl (r_assign (f.eval rfl)) (fun a f => ?_)
       refine l_nil ?_
       have m : Mem W G_189 w (it_124 :: Itm.box b_2 31 [v0_0] :: Itm.box b_4 28 [v1_0, v1_1] :: H) := m.front 2 rfl
       have m : Mem W G_189 w (Itm.box b_4 28 [v1_0, v1_1] :: it_124 :: Itm.box b_2 31 [v0_0] :: H) := m.front 2 rfl
       have m : Mem W G_189 w (Itm.box b_2 31 [v0_0] :: Itm.box b_4 28 [v1_0, v1_1] :: it_124 :: H) := m.front 2 rfl
       obtain rfl := Option.some.inj hs_157
       exact ⟨_, rfl, _, rfl, _, (GLe.trans hl_163 hl_190), f.weak ⟨rfl, rfl, rfl, rfl, trivial⟩, m⟩
     ·refine k_false f rfl hc_179 ?_
      refine k_exit rfl ?_
      have m : Mem W G_161 w (Itm.box b_4 28 [v1_0, v1_1] :: Itm.box b_2 31 [v0_0] :: it_124 :: H) := m.front 1 rfl
      have m : Mem W G_161 w (Itm.box b_2 31 [v0_0] :: Itm.box b_4 28 [v1_0, v1_1] :: it_124 :: H) := m.front 1 rfl
      have m : Mem W G_161 w (Itm.box b_2 31 [v0_0] :: Itm.box b_4 28 [v1_0, v1_1] :: H) := m.eraseAt 2
      obtain rfl := Option.some.inj hs_157
      obtain rfl := hq_158 _ rfl
      exact ⟨_, rfl, _, hl_163, f.weak ⟨rfl, rfl, trivial⟩, m⟩
    ·rintro a w ⟨_, rfl, G_177, hl_178, f, m⟩
     have h0_0 := RSl.mono (RSl.mono (RI.mono _)) _ _ _ _ hl_178 h0_0
     have h1_0 := RSl.mono (RSl.mono (RI.mono _)) _ _ _ _ hl_178 h1_0
     have h1_1 := RSl.mono (RSl.mono (RI.mono _)) _ _ _ _ hl_178 h1_1
     refine k_seq ?_
     refine k_seq ?_
     refine k_region ?_
     refine l_op f rfl rfl rfl (r_assign (f.eval rfl)) (fun a f => ?_)
     refine l_nil ?_
     obtain ⟨q_304, hl_305, hd⟩ := bind_some hd
     refine k_cut (fun a w => ∃ q_304' : Unit, q_304 = .inl q_304' ∧ ∃ (G_368 : GH), GLe G_177 G_368 ∧ Fr a 69 [] ∧ Mem W G_368 w (H)) ?_ ?_
     ·refine k_block ?_
      have m : Mem W G_177 w (Itm.box b_4 28 [v1_0, v1_1] :: Itm.box b_2 31 [v0_0] :: H) := m.front 1 rfl
      have m : Mem W G_177 w (Itm.box b_2 31 [v0_0] :: Itm.box b_4 28 [v1_0, v1_1] :: H) := m.front 1 rfl
      refine k_loop (fun s_308 a w => ∃ x_311 : Int, x_311 = s_308 ∧ ∃ (G_310 : GH), GLe G_177 G_310 ∧ Fr a 69 [(2, (.pointer (some ⟨b_2, 0, none⟩))), (3, (.pointer (some ⟨b_4, 0, none⟩))), (8, (.int .i64 x_311))] ∧ Mem W G_310 w (Itm.box b_2 31 [v0_0] :: Itm.box b_4 28 [v1_0, v1_1] :: H)) hl_305 ⟨_, rfl, _, (GLe.refl _), f.weak ⟨rfl, rfl, rfl, trivial⟩, m⟩ ?_
      clear hl_305 f m
      rintro s_308 o_309 hs_306 hq_307 a w ⟨x_311, rfl, G_310, hl_312, f, m⟩
      have h0_0 := RSl.mono (RSl.mono (RI.mono _)) _ _ _ _ hl_312 h0_0
      have h1_0 := RSl.mono (RSl.mono (RI.mono _)) _ _ _ _ hl_312 h1_0
      have h1_1 := RSl.mono (RSl.mono (RI.mono _)) _ _ _ _ hl_312 h1_1
      refine k_seq ?_
      refine k_seq ?_
      refine k_region ?_
      refine l_op f rfl rfl rfl (r_move (f.eval rfl)) (fun a f => ?_)
      refine l_boxAgg 0 0 (ds := [v0_0]) m Ag31 f rfl rfl rfl rfl rfl (fun a f => ?_)
      obtain ⟨y_370, hy_371, hs_306⟩ := bind_some hs_306
      refine l_res f rfl rfl Tryd.call108 (Wk.spec_l1Size m h0_0 hy_371) (fun v_375 G_372 Ho_376 w hl_373 m hQ_374 a f => ?_)
      obtain ⟨rfl, rfl⟩ := hQ_374
      have h0_0 := RSl.mono (RSl.mono (RI.mono _)) _ _ _ _ hl_373 h0_0
      have h1_0 := RSl.mono (RSl.mono (RI.mono _)) _ _ _ _ hl_373 h1_0
      have h1_1 := RSl.mono (RSl.mono (RI.mono _)) _ _ _ _ hl_373 h1_1
      have m : Mem W G_372 w (Itm.box b_2 31 [v0_0] :: Itm.box b_4 28 [v1_0, v1_1] :: H) := m
      refine l_op f rfl rfl rfl (r_int (f.eval rfl) (f.eval rfl) b_lss) (fun a f => ?_)
      refine l_nil ?_
      rcases cond_some hs_306 with ⟨hc_377, hs_306⟩ | ⟨hc_377, hs_306⟩
      ·refine k_true f rfl hc_377 ?_
       refine k_skip ?_
       refine k_seq ?_
       refine k_block ?_
       refine k_seq ?_
       refine k_region ?_
       refine l_boxAgg 1 0 (ds := [v1_0, v1_1]) m Ag28 f rfl rfl rfl rfl rfl (fun a f => ?_)
       refine l_op f rfl rfl rfl (r_move (f.eval rfl)) (fun a f => ?_)
       obtain ⟨y_378, hy_379, hs_306⟩ := bind_some hs_306
       refine l_res f rfl rfl Tryd.call161 (Wk.spec_l9With m h1_0 h1_1 hy_379) (fun v_383 G_380 Ho_384 w hl_381 m hQ_382 a f => ?_)
       obtain ⟨v_385, it_386, rfl, rfl, o_387⟩ := hQ_382
       have h1_0 := RSl.mono (RSl.mono (RI.mono _)) _ _ _ _ hl_381 h1_0
       have h1_1 := RSl.mono (RSl.mono (RI.mono _)) _ _ _ _ hl_381 h1_1
       have h0_0 := RSl.mono (RSl.mono (RI.mono _)) _ _ _ _ hl_381 h0_0
       have m : Mem W G_380 w (it_386 :: Itm.box b_2 31 [v0_0] :: Itm.box b_4 28 [v1_0, v1_1] :: H) := m
       refine l_op f rfl rfl rfl (r_assign (f.eval rfl)) (fun a f => ?_)
       refine l_nil ?_
       refine k_seq ?_
       refine k_region ?_
       refine l_op f rfl rfl rfl (r_move (f.eval rfl)) (fun a f => ?_)
       refine l_own_len 0 m o_387 rfl Tryd.underlying25 f rfl rfl (fun a f => ?_)
       refine l_op f rfl rfl rfl (r_int (f.eval rfl) (f.eval rfl) b_eql) (fun a f => ?_)
       refine l_op f rfl rfl rfl (r_move (f.eval rfl)) (fun a f => ?_)
       obtain ⟨b_412, hj_413, hs_306⟩ := bind_some hs_306
       refine l_cut 7 (fun a w => ∃ G_410, GLe G_380 G_410 ∧ Mem W G_410 w (it_386 :: Itm.box b_2 31 [v0_0] :: Itm.box b_4 28 [v1_0, v1_1] :: H) ∧ Fr a 69 [(2, (.pointer (some ⟨b_2, 0, none⟩))), (3, (.pointer (some ⟨b_4, 0, none⟩))), (8, (.int .i64 x_311)), (9, v_385), (58, v_385), (59, (.int .i64 (y_378.length : Int))), (60, (.bool ((y_378.length : Int) == 0))), (61, (.bool ((y_378.length : Int) == 0))), (68, (.bool b_412))]) ?_ ?_
       ·rcases cond_some hj_413 with ⟨hc_389, hj_413⟩ | ⟨hc_389, hj_413⟩
        ·refine l_not' f rfl rfl rfl hc_389 (fun a f => ?_)
         refine l_not' f rfl rfl rfl hc_389 (fun a f => ?_)
         refine l_not' f rfl rfl rfl hc_389 (fun a f => ?_)
         refine l_not' f rfl rfl rfl hc_389 (fun a f => ?_)
         refine l_not' f rfl rfl rfl hc_389 (fun a f => ?_)
         refine l_not' f rfl rfl rfl hc_389 (fun a f => ?_)
         refine l_op f rfl rfl rfl (r_pickT (f.eval rfl) hc_389 (f.eval rfl)) (fun a f => ?_)
         obtain rfl := Option.some.inj hj_413
         have m : Mem W G_380 w (Itm.box b_4 28 [v1_0, v1_1] :: it_386 :: Itm.box b_2 31 [v0_0] :: H) := m.front 2 rfl
         have m : Mem W G_380 w (Itm.box b_2 31 [v0_0] :: Itm.box b_4 28 [v1_0, v1_1] :: it_386 :: H) := m.front 2 rfl
         have m : Mem W G_380 w (it_386 :: Itm.box b_2 31 [v0_0] :: Itm.box b_4 28 [v1_0, v1_1] :: H) := m.front 2 rfl
         exact ⟨_, (GLe.refl _), m, f.weak ⟨rfl, rfl, rfl, rfl, rfl, rfl, rfl, rfl, rfl, trivial⟩⟩
        ·refine l_run f rfl rfl hc_389 ?_
         refine l_boxAgg 2 0 (ds := [v1_0, v1_1]) m Ag28 f rfl rfl rfl rfl rfl (fun a f => ?_)
         refine l_run f rfl rfl hc_389 ?_
         refine l_op f rfl rfl rfl (r_move (f.eval rfl)) (fun a f => ?_)
         refine l_run f rfl rfl hc_389 ?_
         obtain ⟨y_414, hy_415, hj_413⟩ := bind_some hj_413
         refine l_res f rfl rfl Tryd.call162 (Ow.lendCall (RI.mono _) 0 o_387 m rfl (fun G_416 hl_417 m h_418 => Wk.spec_l9Reached m (RSl.mono (RSl.mono (RI.mono _)) _ _ _ _ hl_417 h1_0) (RSl.mono (RSl.mono (RI.mono _)) _ _ _ _ hl_417 h1_1) h_418 hy_415) (fun _ _ _ _ h => h)) (fun v_422 G_419 Ho_423 w hl_420 m hQ_421 a f => ?_)
         obtain ⟨rfl, rfl⟩ := hQ_421
         have h1_0 := RSl.mono (RSl.mono (RI.mono _)) _ _ _ _ hl_420 h1_0
         have h1_1 := RSl.mono (RSl.mono (RI.mono _)) _ _ _ _ hl_420 h1_1
         have o_387 := Ow.mono (RI.mono _) hl_420 o_387
         have h0_0 := RSl.mono (RSl.mono (RI.mono _)) _ _ _ _ hl_420 h0_0
         have m : Mem W G_419 w (it_386 :: Itm.box b_2 31 [v0_0] :: Itm.box b_4 28 [v1_0, v1_1] :: H) := m
         refine l_run f rfl rfl hc_389 ?_
         refine l_op f rfl rfl rfl (r_move (f.eval rfl)) (fun a f => ?_)
         refine l_run f rfl rfl hc_389 ?_
         refine l_own_len 0 m o_387 rfl Tryd.underlying25 f rfl rfl (fun a f => ?_)
         refine l_run f rfl rfl hc_389 ?_
         refine l_op f rfl rfl rfl (r_int (f.eval rfl) (f.eval rfl) b_neq) (fun a f => ?_)
         refine l_op f rfl rfl rfl (r_pickF (f.eval rfl) hc_389 (f.eval rfl)) (fun a f => ?_)
         obtain rfl := Option.some.inj hj_413
         have m : Mem W G_419 w (Itm.box b_4 28 [v1_0, v1_1] :: it_386 :: Itm.box b_2 31 [v0_0] :: H) := m.front 2 rfl
         have m : Mem W G_419 w (Itm.box b_2 31 [v0_0] :: Itm.box b_4 28 [v1_0, v1_1] :: it_386 :: H) := m.front 2 rfl
         have m : Mem W G_419 w (it_386 :: Itm.box b_2 31 [v0_0] :: Itm.box b_4 28 [v1_0, v1_1] :: H) := m.front 2 rfl
         exact ⟨_, hl_420, m, f.weak ⟨rfl, rfl, rfl, rfl, rfl, rfl, rfl, rfl, rfl, trivial⟩⟩
       ·rintro a w ⟨G_410, hl_411, m, f⟩
        have o_387 := Ow.mono (RI.mono _) hl_411 o_387
        have h0_0 := RSl.mono (RSl.mono (RI.mono _)) _ _ _ _ hl_411 h0_0
        have h1_0 := RSl.mono (RSl.mono (RI.mono _)) _ _ _ _ hl_411 h1_0
        have h1_1 := RSl.mono (RSl.mono (RI.mono _)) _ _ _ _ hl_411 h1_1
        refine l_nil ?_
        rcases cond_some hs_306 with ⟨hc_424, hs_306⟩ | ⟨hc_424, hs_306⟩
        ·refine k_true f rfl hc_424 ?_
         refine k_seq ?_
         refine k_region ?_
         refine l_op f rfl rfl rfl (r_assign (f.eval rfl)) (fun a f => ?_)
         refine l_nil ?_
         refine k_ret ?_
         have m : Mem W G_410 w H := Mem.drop (H' := [it_386, Itm.box b_2 31 [v0_0], Itm.box b_4 28 [v1_0, v1_1]]) m
         obtain rfl := Option.some.inj hs_306
         obtain rfl := hq_307 _ rfl
         obtain rfl := Option.some.inj hd
         exact ⟨[(.bool false)], ⟨f.get _ _ rfl, trivial⟩, f.defers, _, [], (GLe.trans hl_8 (GLe.trans hl_28 (GLe.trans hl_99 (GLe.trans hl_119 (GLe.trans hl_178 (GLe.trans hl_312 (GLe.trans hl_373 (GLe.trans hl_381 hl_411)))))))), m, rfl, rfl⟩
        ·refine k_false f rfl hc_424 ?_
         refine k_skip ?_
         refine k_region ?_
         refine l_op f rfl rfl rfl (r_move (f.eval rfl)) (fun a f => ?_)
         refine l_op f rfl rfl rfl (r_int (f.eval rfl) (f.eval rfl) b_add) (fun a f => ?_)
         refine l_op f rfl rfl rfl (r_assign (f.eval rfl)) (fun a f => ?_)
         refine l_nil ?_
         have m : Mem W G_410 w (Itm.box b_4 28 [v1_0, v1_1] :: it_386 :: Itm.box b_2 31 [v0_0] :: H) := m.front 2 rfl
         have m : Mem W G_410 w (Itm.box b_2 31 [v0_0] :: Itm.box b_4 28 [v1_0, v1_1] :: it_386 :: H) := m.front 2 rfl
         have m : Mem W G_410 w (Itm.box b_2 31 [v0_0] :: Itm.box b_4 28 [v1_0, v1_1] :: H) := m.eraseAt 2
         obtain rfl := Option.some.inj hs_306
         exact ⟨_, rfl, _, rfl, _, (GLe.trans hl_312 (GLe.trans hl_373 (GLe.trans hl_381 hl_411))), f.weak ⟨rfl, rfl, rfl, trivial⟩, m⟩
      ·refine k_false f rfl hc_377 ?_
       refine k_exit rfl ?_
       have m : Mem W G_372 w H := Mem.drop (H' := [Itm.box b_2 31 [v0_0], Itm.box b_4 28 [v1_0, v1_1]]) m
       obtain rfl := Option.some.inj hs_306
       obtain rfl := hq_307 _ rfl
       exact ⟨_, rfl, _, (GLe.trans hl_312 hl_373), f.weak trivial, m⟩
     ·rintro a w ⟨_, rfl, G_368, hl_369, f, m⟩
      refine k_seq ?_
      refine k_region ?_
      refine l_op f rfl rfl rfl (r_assign (f.eval rfl)) (fun a f => ?_)
      refine l_nil ?_
      refine k_ret ?_
      obtain rfl := Option.some.inj hd
      exact ⟨[(.bool true)], ⟨f.get _ _ rfl, trivial⟩, f.defers, _, [], (GLe.trans hl_8 (GLe.trans hl_28 (GLe.trans hl_99 (GLe.trans hl_119 (GLe.trans hl_178 hl_369))))), m, rfl, rfl⟩

theorem Wk.spec_l1Max {W w : World} {G : GH} {H : List Itm} {x0 : Int} {x1 : Int} (m : Mem W G w (H))  {y : Int} (hd : D.spec_l1Max x0 x1 = some y) :
  Calls Tryd.prog 163 #[(.int .i64 x0), (.int .i64 x1)] w (Res W G H (fun _ Ho v => Ho = [] ∧ v = (.int .i64 y))) := by
 refine calls_b (args := [(.int .i64 x0), (.int .i64 x1)]) (N := 10) [.tmp 4] Tryd.func163 rfl rfl (Nat.le_of_ble_eq_true rfl) rfl (fun a f => ?_)
 unfold D.spec_l1Max at hd
 refine k_seq ?_
 refine k_region ?_
 refine l_op f rfl rfl rfl (r_assign (f.eval rfl)) (fun a f => ?_)
 refine l_nil ?_
 refine k_seq ?_
 refine k_seq ?_
 refine k_region ?_
 refine l_op f rfl rfl rfl (r_move (f.eval rfl)) (fun a f => ?_)
 refine l_op f rfl rfl rfl (r_move (f.eval rfl)) (fun a f => ?_)
 refine l_op f rfl rfl rfl (r_int (f.eval rfl) (f.eval rfl) b_gtr) (fun a f => ?_)
 refine l_nil ?_
 rcases cond_some hd with ⟨hc_1, hd⟩ | ⟨hc_1, hd⟩
 ·refine k_true f rfl hc_1 ?_
  refine k_seq ?_
  refine k_region ?_
  refine l_op f rfl rfl rfl (r_move (f.eval rfl)) (fun a f => ?_)
  refine l_op f rfl rfl rfl (r_assign (f.eval rfl)) (fun a f => ?_)
  refine l_nil ?_
  refine k_ret ?_
  obtain rfl := Option.some.inj hd
  exact ⟨[(.int .i64 x0)], ⟨f.get _ _ rfl, trivial⟩, f.defers, _, [], (GLe.refl _), m, rfl, rfl⟩
 ·refine k_false f rfl hc_1 ?_
  refine k_skip ?_
  refine k_seq ?_
  refine k_region ?_
  refine l_op f rfl rfl rfl (r_move (f.eval rfl)) (fun a f => ?_)
  refine l_op f rfl rfl rfl (r_assign (f.eval rfl)) (fun a f => ?_)
  refine l_nil ?_
  refine k_ret ?_
  obtain rfl := Option.some.inj hd
  exact ⟨[(.int .i64 x1)], ⟨f.get _ _ rfl, trivial⟩, f.defers, _, [], (GLe.refl _), m, rfl, rfl⟩

theorem Wk.spec_WidthOf {W w : World} {G : GH} {H : List Itm} {v0_0 : Value} {v0_1 : Value} {x0_0 : (List (List Int))} {x0_1 : (List (List Int))} (m : Mem W G w (H)) (h0_0 : RSl (RSl (RI .i64)) G v0_0 x0_0) (h0_1 : RSl (RSl (RI .i64)) G v0_1 x0_1) {y : Int} (hd : D.spec_WidthOf x0_0 x0_1 = some y) :
  Calls Tryd.prog 70 #[(.agg #[v0_0, v0_1])] w (Res W G H (fun _ Ho v => Ho = [] ∧ v = (.int .i64 y))) := by
 refine calls_b (args := [(.agg #[v0_0, v0_1])]) (N := 28) [.tmp 2] Tryd.func70 rfl rfl (Nat.le_of_ble_eq_true rfl) rfl (fun a f => ?_)
 unfold D.spec_WidthOf at hd
 refine k_seq ?_
 refine k_region ?_
 refine l_box (cs := [v0_0, v0_1]) m f rfl rfl rfl (fun b_2 w a m f => ?_)
 refine l_op f rfl rfl rfl (r_assign (f.eval rfl)) (fun a f => ?_)
 refine l_nil ?_
 refine k_seq ?_
 refine k_region ?_
 refine l_op f rfl rfl rfl (r_assign (f.eval rfl)) (fun a f => ?_)
 refine l_nil ?_
 refine k_seq ?_
 refine k_seq ?_
 refine k_region ?_
 refine l_op f rfl rfl rfl (r_assign (f.eval rfl)) (fun a f => ?_)
 refine l_nil ?_
 obtain ⟨q_40, hl_41, hd⟩ := bind_some hd
 refine k_cut (fun a w => ∃ x_68 : Int, x_68 = q_40 ∧ ∃ (G_67 : GH), GLe G G_67 ∧ Fr a 28 [(3, (.int .i64 x_68))] ∧ Mem W G_67 w (H)) ?_ ?_
 ·refine k_block ?_
  refine k_loop (fun s_44 a w => ∃ x_47 : Int, ∃ x_48 : Int, (x_47, x_48) = s_44 ∧ ∃ (G_46 : GH), GLe G G_46 ∧ Fr a 28 [(1, (.pointer (some ⟨b_2, 0, none⟩))), (3, (.int .i64 x_47)), (4, (.int .i64 x_48))] ∧ Mem W G_46 w (Itm.box b_2 28 [v0_0, v0_1] :: H)) hl_41 ⟨_, _, rfl, _, (GLe.refl _), f.weak ⟨rfl, rfl, rfl, trivial⟩, m⟩ ?_
  clear hl_41 f m
  rintro s_44 o_45 hs_42 hq_43 a w ⟨x_47, x_48, rfl, G_46, hl_49, f, m⟩
  have h0_0 := RSl.mono (RSl.mono (RI.mono _)) _ _ _ _ hl_49 h0_0
  have h0_1 := RSl.mono (RSl.mono (RI.mono _)) _ _ _ _ hl_49 h0_1
  refine k_seq ?_
  refine k_seq ?_
  refine k_region ?_
  refine l_op f rfl rfl rfl (r_move (f.eval rfl)) (fun a f => ?_)
  refine l_fieldAddr Tryd.underlying28 rfl Tryd.sizeOf22 (by decide) f rfl rfl (fun a f => ?_)
  refine l_boxCell 0 0 m Pl22 f rfl rfl rfl rfl (fun a f => ?_)
  refine l_len Tryd.underlying22 f rfl rfl h0_0 (fun a f => ?_)
  refine l_op f rfl rfl rfl (r_int (f.eval rfl) (f.eval rfl) b_lss) (fun a f => ?_)
  refine l_op f rfl rfl rfl (r_move (f.eval rfl)) (fun a f => ?_)
  refine l_cut 5 (fun a w => ∃ G_71, GLe G_46 G_71 ∧ Mem W G_71 w (Itm.box b_2 28 [v0_0, v0_1] :: H) ∧ Fr a 28 [(1, (.pointer (some ⟨b_2, 0, none⟩))), (3, (.int .i64 x_47)), (4, (.int .i64 x_48)), (5, (.int .i64 x_48)), (6, (.pointer (some ⟨b_2, 0, none⟩))), (7, v0_0), (8, (.int .i64 (x0_0.length : Int))), (9, (.bool (decide (x_48 < (x0_0.length : Int))))), (10, (.bool (decide (x_48 < (x0_0.length : Int))))), (15, (.bool ((decide (x_48 < (x0_0.length : Int))) && (decide ((x0_0.length : Int) ≤ 16)))))]) ?_ ?_
  ·rcases Bool.eq_false_or_eq_true (decide (x_48 < (x0_0.length : Int))) with hc_70 | hc_70
   ·refine l_run f rfl rfl hc_70 ?_
    refine l_fieldAddr Tryd.underlying28 rfl Tryd.sizeOf22 (by decide) f rfl rfl (fun a f => ?_)
    refine l_run f rfl rfl hc_70 ?_
    refine l_boxCell 0 0 m Pl22 f rfl rfl rfl rfl (fun a f => ?_)
    refine l_run f rfl rfl hc_70 ?_
    refine l_len Tryd.underlying22 f rfl rfl h0_0 (fun a f => ?_)
    refine l_run f rfl rfl hc_70 ?_
    refine l_op f rfl rfl rfl (r_int (f.eval rfl) (f.eval rfl) b_leq) (fun a f => ?_)
    refine l_op f rfl rfl rfl (r_pickT (f.eval rfl) hc_70 (f.eval rfl)) (fun a f => ?_)
    exact ⟨_, (GLe.refl _), m, f.weak ⟨rfl, rfl, rfl, rfl, rfl, rfl, rfl, rfl, rfl, by rw [hc_70]; rfl, trivial⟩⟩
   ·refine l_not' f rfl rfl rfl hc_70 (fun a f => ?_)
    refine l_not' f rfl rfl rfl hc_70 (fun a f => ?_)
    refine l_not' f rfl rfl rfl hc_70 (fun a f => ?_)
    refine l_not' f rfl rfl rfl hc_70 (fun a f => ?_)
    refine l_op f rfl rfl rfl (r_pickF (f.eval rfl) hc_70 (f.eval rfl)) (fun a f => ?_)
    exact ⟨_, (GLe.refl _), m, f.weak ⟨rfl, rfl, rfl, rfl, rfl, rfl, rfl, rfl, rfl, by rw [hc_70]; rfl, trivial⟩⟩
  ·rintro a w ⟨G_71, hl_72, m, f⟩
   have h0_0 := RSl.mono (RSl.mono (RI.mono _)) _ _ _ _ hl_72 h0_0
   have h0_1 := RSl.mono (RSl.mono (RI.mono _)) _ _ _ _ hl_72 h0_1
   refine l_nil ?_
   rcases cond_some hs_42 with ⟨hc_73, hs_42⟩ | ⟨hc_73, hs_42⟩
   ·refine k_true f rfl hc_73 ?_
    refine k_skip ?_
    refine k_seq ?_
    refine k_block ?_
    refine k_region ?_
    refine l_op f rfl rfl rfl (r_move (f.eval rfl)) (fun a f => ?_)
    refine l_fieldAddr Tryd.underlying28 rfl Tryd.sizeOf22 (by decide) f rfl rfl (fun a f => ?_)
    refine l_boxCell 0 0 m Pl22 f rfl rfl rfl rfl (fun a f => ?_)
    refine l_op f rfl rfl rfl (r_move (f.eval rfl)) (fun a f => ?_)
    obtain ⟨e_74, he_75, hs_42⟩ := bind_some hs_42
    refine l_at T22 f rfl rfl rfl h0_0 he_75 (fun p_76 c_77 a g_78 h_79 f => ?_)
    refine l_loadAt m Pl25 f rfl rfl g_78 (fun a f => ?_)
    refine l_len Tryd.underlying25 f rfl rfl h_79 (fun a f => ?_)
    refine l_op f rfl rfl rfl (r_int (f.eval rfl) (f.eval rfl) b_sub) (fun a f => ?_)
    obtain ⟨y_80, hy_81, hs_42⟩ := bind_some hs_42
    refine l_res f rfl rfl Tryd.call163 (Wk.spec_l1Max m  hy_81) (fun v_85 G_82 Ho_86 w hl_83 m hQ_84 a f => ?_)
    obtain ⟨rfl, rfl⟩ := hQ_84
    have h0_0 := RSl.mono (RSl.mono (RI.mono _)) _ _ _ _ hl_83 h0_0
    have g_78 := At.mono hl_83 g_78
    have h_79 := RSl.mono (RI.mono _) _ _ _ _ hl_83 h_79
    have h0_1 := RSl.mono (RSl.mono (RI.mono _)) _ _ _ _ hl_83 h0_1
    have m : Mem W G_82 w (Itm.box b_2 28 [v0_0, v0_1] :: H) := m
    refine l_op f rfl rfl rfl (r_assign (f.eval rfl)) (fun a f => ?_)
    refine l_nil ?_
    refine k_region ?_
    refine l_op f rfl rfl rfl (r_move (f.eval rfl)) (fun a f => ?_)
    refine l_op f rfl rfl rfl (r_int (f.eval rfl) (f.eval rfl) b_add) (fun a f => ?_)
    refine l_op f rfl rfl rfl (r_assign (f.eval rfl)) (fun a f => ?_)
    refine l_nil ?_
    obtain rfl := Option.some.inj hs_42
    exact ⟨_, rfl, _, _, rfl, _, (GLe.trans hl_49 (GLe.trans hl_72 hl_83)), f.weak ⟨rfl, rfl, rfl, trivial⟩, m⟩
   ·refine k_false f rfl hc_73 ?_
    refine k_exit rfl ?_
    have m : Mem W G_71 w H := Mem.drop (H' := [Itm.box b_2 28 [v0_0, v0_1]]) m
    obtain rfl := Option.some.inj hs_42
    obtain rfl := hq_43 _ rfl
    exact ⟨_, rfl, _, (GLe.trans hl_49 hl_72), f.weak ⟨rfl, trivial⟩, m⟩
 ·rintro a w ⟨x_68, rfl, G_67, hl_69, f, m⟩
  refine k_seq ?_
  refine k_region ?_
  refine l_op f rfl rfl rfl (r_move (f.eval rfl)) (fun a f => ?_)
  refine l_op f rfl rfl rfl (r_assign (f.eval rfl)) (fun a f => ?_)
  refine l_nil ?_
  refine k_ret ?_
  obtain rfl := Option.some.inj hd
  exact ⟨[(.int .i64 x_68)], ⟨f.get _ _ rfl, trivial⟩, f.defers, _, [], hl_69, m, rfl, rfl⟩

theorem Wk.spec_Separation {W w : World} {G : GH} {H : List Itm} {v0_0 : Value} {v1 : Value} {x0_0 : (List (List Int))} {x1 : (List Int)} (m : Mem W G w (H)) (h0_0 : RSl (RSl (RI .i64)) G v0_0 x0_0) (h1 : RSl (RI .i64) G v1 x1) {y : Int} (hd : D.spec_Separation x0_0 x1 = some y) :
  Calls Tryd.prog 71 #[(.agg #[v0_0]), v1] w (Res W G H (fun _ Ho v => Ho = [] ∧ v = (.int .i64 y))) := by
 refine calls_b (args := [(.agg #[v0_0]), v1]) (N := 31) [.tmp 4] Tryd.func71 rfl rfl (Nat.le_of_ble_eq_true rfl) rfl (fun a f => ?_)
 unfold D.spec_Separation at hd
 refine k_seq ?_
 refine k_region ?_
 refine l_box (cs := [v0_0]) m f rfl rfl rfl (fun b_2 w a m f => ?_)
 refine l_op f rfl rfl rfl (r_assign (f.eval rfl)) (fun a f => ?_)
 refine l_nil ?_
 refine k_seq ?_
 refine k_seq ?_
 refine k_region ?_
 refine l_boxAgg 0 0 (ds := [v0_0]) m Ag31 f rfl rfl rfl rfl rfl (fun a f => ?_)
 obtain ⟨y_3, hy_4, hd⟩ := bind_some hd
 refine l_res f rfl rfl Tryd.call35 (Wk.spec_GraphOk m h0_0 hy_4) (fun v_8 G_5 Ho_9 w hl_6 m hQ_7 a f => ?_)
 obtain ⟨rfl, rfl⟩ := hQ_7
 have h0_0 := RSl.mono (RSl.mono (RI.mono _)) _ _ _ _ hl_6 h0_0
 have h1 := RSl.mono (RI.mono _) _ _ _ _ hl_6 h1
 have m : Mem W G_5 w (Itm.box b_2 31 [v0_0] :: H) := m
 refine l_op f rfl rfl rfl (r_not (f.eval rfl)) (fun a f => ?_)
 refine l_op f rfl rfl rfl (r_move (f.eval rfl)) (fun a f => ?_)
 obtain ⟨b_27, hj_28, hd⟩ := bind_some hd
 refine l_cut 5 (fun a w => ∃ G_25, GLe G_5 G_25 ∧ Mem W G_25 w (Itm.box b_2 31 [v0_0] :: H) ∧ Fr a 31 [(0, (.agg #[v0_0])), (1, v1), (2, (.pointer (some ⟨b_2, 0, none⟩))), (7, (.agg #[v0_0])), (8, (.bool y_3)), (9, (.bool (!y_3))), (10, (.bool (!y_3))), (15, (.bool b_27))]) ?_ ?_
 ·rcases cond_some hj_28 with ⟨hc_10, hj_28⟩ | ⟨hc_10, hj_28⟩
  ·refine l_not' f rfl rfl rfl hc_10 (fun a f => ?_)
   refine l_not' f rfl rfl rfl hc_10 (fun a f => ?_)
   refine l_not' f rfl rfl rfl hc_10 (fun a f => ?_)
   refine l_not' f rfl rfl rfl hc_10 (fun a f => ?_)
   refine l_op f rfl rfl rfl (r_pickT (f.eval rfl) hc_10 (f.eval rfl)) (fun a f => ?_)
   obtain rfl := Option.some.inj hj_28
   exact ⟨_, (GLe.refl _), m, f.weak ⟨rfl, rfl, rfl, rfl, rfl, rfl, rfl, rfl, trivial⟩⟩
  ·refine l_run f rfl rfl hc_10 ?_
   refine l_boxAgg 0 0 (ds := [v0_0]) m Ag31 f rfl rfl rfl rfl rfl (fun a f => ?_)
   refine l_run f rfl rfl hc_10 ?_
   refine l_op f rfl rfl rfl (r_move (f.eval rfl)) (fun a f => ?_)
   refine l_run f rfl rfl hc_10 ?_
   obtain ⟨y_29, hy_30, hj_28⟩ := bind_some hj_28
   refine l_res f rfl rfl Tryd.call52 (Wk.spec_OrderOk m h0_0 h1 hy_30) (fun v_34 G_31 Ho_35 w hl_32 m hQ_33 a f => ?_)
   obtain ⟨rfl, rfl⟩ := hQ_33
   have h0_0 := RSl.mono (RSl.mono (RI.mono _)) _ _ _ _ hl_32 h0_0
   have h1 := RSl.mono (RI.mono _) _ _ _ _ hl_32 h1
   have m : Mem W G_31 w (Itm.box b_2 31 [v0_0] :: H) := m
   refine l_run f rfl rfl hc_10 ?_
   refine l_op f rfl rfl rfl (r_not (f.eval rfl)) (fun a f => ?_)
   refine l_op f rfl rfl rfl (r_pickF (f.eval rfl) hc_10 (f.eval rfl)) (fun a f => ?_)
   obtain rfl := Option.some.inj hj_28
   exact ⟨_, hl_32, m, f.weak ⟨rfl, rfl, rfl, rfl, rfl, rfl, rfl, rfl, trivial⟩⟩
 ·rintro a w ⟨G_25, hl_26, m, f⟩
  have h0_0 := RSl.mono (RSl.mono (RI.mono _)) _ _ _ _ hl_26 h0_0
  have h1 := RSl.mono (RI.mono _) _ _ _ _ hl_26 h1
  refine l_nil ?_
  rcases cond_some hd with ⟨hc_36, hd⟩ | ⟨hc_36, hd⟩
  ·refine k_true f rfl hc_36 ?_
   refine k_seq ?_
   refine k_region ?_
   refine l_op f rfl rfl rfl (r_assign (f.eval rfl)) (fun a f => ?_)
   refine l_nil ?_
   refine k_ret ?_
   have m : Mem W G_25 w H := Mem.drop (H' := [Itm.box b_2 31 [v0_0]]) m
   obtain rfl := Option.some.inj hd
   exact ⟨[(.int .i64 (-1))], ⟨f.get _ _ rfl, trivial⟩, f.defers, _, [], (GLe.trans hl_6 hl_26), m, rfl, rfl⟩
  ·refine k_false f rfl hc_36 ?_
   refine k_skip ?_
   refine k_seq ?_
   refine k_region ?_
   refine l_op f rfl rfl rfl (r_assign (f.eval rfl)) (fun a f => ?_)
   refine l_nil ?_
   refine k_seq ?_
   refine k_seq ?_
   refine k_region ?_
   refine l_op f rfl rfl rfl (r_assign (f.eval rfl)) (fun a f => ?_)
   refine l_nil ?_
   obtain ⟨q_84, hl_85, hd⟩ := bind_some hd
   refine k_cut (fun a w => ∃ x_117 : Int, x_117 = q_84 ∧ ∃ (G_116 : GH), GLe G_25 G_116 ∧ Fr a 31 [(5, (.int .i64 x_117))] ∧ Mem W G_116 w (H)) ?_ ?_
   ·refine k_block ?_
    refine k_loop (fun s_88 a w => ∃ x_91 : Int, ∃ x_92 : Int, (x_91, x_92) = s_88 ∧ ∃ (G_90 : GH), GLe G_25 G_90 ∧ Fr a 31 [(1, v1), (2, (.pointer (some ⟨b_2, 0, none⟩))), (5, (.int .i64 x_91)), (6, (.int .i64 x_92))] ∧ Mem W G_90 w (Itm.box b_2 31 [v0_0] :: H)) hl_85 ⟨_, _, rfl, _, (GLe.refl _), f.weak ⟨rfl, rfl, rfl, rfl, trivial⟩, m⟩ ?_
    clear hl_85 f m
    rintro s_88 o_89 hs_86 hq_87 a w ⟨x_91, x_92, rfl, G_90, hl_93, f, m⟩
    have h1 := RSl.mono (RI.mono _) _ _ _ _ hl_93 h1
    have h0_0 := RSl.mono (RSl.mono (RI.mono _)) _ _ _ _ hl_93 h0_0
    refine k_seq ?_
    refine k_seq ?_
    refine k_region ?_
    refine l_op f rfl rfl rfl (r_move (f.eval rfl)) (fun a f => ?_)
    refine l_op f rfl rfl rfl (r_move (f.eval rfl)) (fun a f => ?_)
    refine l_len Tryd.underlying25 f rfl rfl h1 (fun a f => ?_)
    refine l_op f rfl rfl rfl (r_int (f.eval rfl) (f.eval rfl) b_leq) (fun a f => ?_)
    refine l_nil ?_
    rcases cond_some hs_86 with ⟨hc_119, hs_86⟩ | ⟨hc_119, hs_86⟩
    ·refine k_true f rfl hc_119 ?_
     refine k_skip ?_
     refine k_seq ?_
     refine k_block ?_
     refine k_draw 9 Follows (by kernel_rfl) m ?_
     refine q_op (i := 0) (listed' := #[true, false, false, false, false, false, false, false, false]) 9 rfl (by kernel_rfl) rfl f rfl rfl rfl (fun _ _ _ _ _ => r_move (f.eval rfl)) (fun a f => ?_)
     refine q_boxAgg (i := 1) (listed' := #[true, true, false, false, false, false, false, false, false]) (ds := [v0_0]) 9 0 Ag31 rfl rfl rfl rfl (by kernel_rfl) rfl f rfl rfl rfl (fun a f => ?_)
     refine q_op (i := 2) (listed' := #[true, true, true, false, false, false, false, false, false]) 9 rfl (by kernel_rfl) rfl f rfl rfl rfl (fun _ _ _ _ _ => r_move (f.eval rfl)) (fun a f => ?_)
     refine q_op (i := 3) (listed' := #[true, true, true, true, false, false, false, false, false]) 9 rfl (by kernel_rfl) rfl f rfl rfl rfl (fun _ _ _ _ _ => r_move (f.eval rfl)) (fun a f => ?_)
     obtain ⟨l_120, hx_121, hs_86⟩ := bind_some hs_86
     refine q_slice (i := 4) (listed' := #[true, true, true, true, true, false, false, false, false]) 9 T25 h1 hx_121 rfl (by kernel_rfl) rfl f rfl rfl rfl (.inl ⟨rfl, rfl⟩) (.inr ⟨_, _, rfl, rfl⟩) (fun v_122 a h_123 f => ?_)
     refine q_one (i := 5) (listed' := #[true, true, true, true, true, true, false, false, false]) rfl (by kernel_rfl) rfl (fun G_124 w hl_125 m K_126 K_126 => ?_)
     have h1 := RSl.mono (RI.mono _) _ _ _ _ hl_125 h1
     have h0_0 := RSl.mono (RSl.mono (RI.mono _)) _ _ _ _ hl_125 h0_0
     have h_123 := RSl.mono (RI.mono _) _ _ _ _ hl_125 h_123
     have m : Mem W G_124 w (Itm.box b_2 31 [v0_0] :: H) := m
     obtain ⟨y_127, hy_128, hs_86⟩ := bind_some hs_86
     refine l_res f rfl rfl Tryd.call164 (Wk.spec_l12Open m h0_0 h_123 hy_128) (fun v_132 G_129 Ho_133 w hl_130 m hQ_131 a f => ?_)
     obtain ⟨v_134, rfl, rfl, h_135⟩ := hQ_131
     have h1 := RSl.mono (RI.mono _) _ _ _ _ hl_130 h1
     have h0_0 := RSl.mono (RSl.mono (RI.mono _)) _ _ _ _ hl_130 h0_0
     have h_123 := RSl.mono (RI.mono _) _ _ _ _ hl_130 h_123
     have m : Mem W G_129 w (Itm.box b_2 31 [v0_0] :: H) := m
     refine l_nil ?_
     refine K_126 G_129 [] _ _ hl_130 m ?_
     refine q_len (i := 6) (listed' := #[true, true, true, true, true, true, true, false, false]) 9 Tryd.underlying25 h_135 rfl (by kernel_rfl) rfl f rfl rfl rfl (fun a f => ?_)
     obtain ⟨y_136, hy_137, hs_86⟩ := bind_some hs_86
     refine q_call (i := 7) (listed' := #[true, true, true, true, true, true, true, true, false]) 9 rfl (by kernel_rfl) rfl f rfl rfl rfl Tryd.call163 (fun _ _ w hG_138 m => Wk.spec_l1Max m  hy_137) (fun a f => ?_)
     refine q_op (i := 8) (listed' := #[true, true, true, true, true, true, true, true, true]) 9 rfl (by kernel_rfl) rfl f rfl rfl rfl (fun _ _ _ _ _ => r_assign (f.eval rfl)) (fun a f => ?_)
     refine q_end (fun G_139 w hl_140 m => ?_)
     have h1 := RSl.mono (RI.mono _) _ _ _ _ hl_140 h1
     have h0_0 := RSl.mono (RSl.mono (RI.mono _)) _ _ _ _ hl_140 h0_0
     have h_123 := RSl.mono (RI.mono _) _ _ _ _ hl_140 h_123
     have h_135 := RSl.mono (RI.mono _) _ _ _ _ hl_140 h_135
     have m : Mem W G_139 w (Itm.box b_2 31 [v0_0] :: H) := m
     refine l_nil ?_
     refine k_region ?_
     refine l_op f rfl rfl rfl (r_move (f.eval rfl)) (fun a f => ?_)
     refine l_op f rfl rfl rfl (r_int (f.eval rfl) (f.eval rfl) b_add) (fun a f => ?_)
     refine l_op f rfl rfl rfl (r_assign (f.eval rfl)) (fun a f => ?_)
     refine l_nil ?_
     obtain rfl := Option.some.inj hs_86
     exact ⟨_, rfl, _, _, rfl, _, (GLe.trans hl_93 (GLe.trans hl_125 (GLe.trans hl_130 hl_140))), f.weak ⟨rfl, rfl, rfl, rfl, trivial⟩, m⟩
    ·refine k_false f rfl hc_119 ?_
     refine k_exit rfl ?_
     have m : Mem W G_90 w H := Mem.drop (H' := [Itm.box b_2 31 [v0_0]]) m
     obtain rfl := Option.some.inj hs_86
     obtain rfl := hq_87 _ rfl
     exact ⟨_, rfl, _, hl_93, f.weak ⟨rfl, trivial⟩, m⟩
   ·rintro a w ⟨x_117, rfl, G_116, hl_118, f, m⟩
    refine k_seq ?_
    refine k_region ?_
    refine l_op f rfl rfl rfl (r_move (f.eval rfl)) (fun a f => ?_)
    refine l_op f rfl rfl rfl (r_assign (f.eval rfl)) (fun a f => ?_)
    refine l_nil ?_
    refine k_ret ?_
    obtain rfl := Option.some.inj hd
    exact ⟨[(.int .i64 x_117)], ⟨f.get _ _ rfl, trivial⟩, f.defers, _, [], (GLe.trans hl_6 (GLe.trans hl_26 hl_118)), m, rfl, rfl⟩


end Go.Proofs.YteegnmdggpcphaaDoor
