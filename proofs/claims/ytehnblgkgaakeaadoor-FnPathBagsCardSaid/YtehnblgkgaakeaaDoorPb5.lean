/- Parts of the proof: EBW. -/
import Derived.Test.YtehnblgkgaakeaaDoorPb4
import Derived.Test.YtehnblgkgaakeaaDoorProg
import Derived.KernelRfl
set_option linter.unusedVariables false
set_option linter.unusedSimpArgs false
set_option linter.unusedSectionVars false
set_option maxRecDepth 100000
namespace Go.Proofs.YtehnblgkgaakeaaDoor
open Go Go.Sx
theorem Pl27 : Plain Tryd.prog 27 := Tryd.isAgg27
theorem Pl31 : Plain Tryd.prog 31 := Tryd.isAgg31
theorem T27 : SlT Tryd.prog 27 31 1 24 (.slice none 0 0) := ⟨Tryd.underlying27, Tryd.t31, by kernel_rfl, by kernel_rfl, by kernel_rfl, by kernel_rfl⟩
theorem Ag29 : Agg Tryd.prog 29 1 := ⟨Tryd.isAgg29, Tryd.sizeOf29⟩
theorem T61 : SlT Tryd.prog 61 66 1 4 (.int .u32 0) := ⟨Tryd.underlying61, Tryd.t66, by kernel_rfl, by kernel_rfl, by kernel_rfl, by kernel_rfl⟩
theorem T63 : SlT Tryd.prog 63 3 1 8 (.int .i64 0) := ⟨Tryd.underlying63, Tryd.t3, by kernel_rfl, by kernel_rfl, by kernel_rfl, by kernel_rfl⟩
theorem Pl5 : Plain Tryd.prog 5 := Tryd.isAgg5
theorem Pl66 : Plain Tryd.prog 66 := Tryd.isAgg66
theorem T59 : SlT Tryd.prog 59 66 1 4 (.int .u32 0) := ⟨Tryd.underlying59, Tryd.t66, by kernel_rfl, by kernel_rfl, by kernel_rfl, by kernel_rfl⟩

theorem Wk.spec_l1In {W w : World} {G : GH} {H : List Itm} {x0 : Int} {x1 : Int} {x2 : Int} (m : Mem W G w (H))  {y : Bool} (hd : D.spec_l1In x0 x1 x2 = some y) :
  Calls Tryd.prog 67 #[(.int .i64 x0), (.int .i64 x1), (.int .i64 x2)] w (Res W G H (fun _ Ho v => Ho = [] ∧ v = (.bool y))) := by
 refine calls_b (args := [(.int .i64 x0), (.int .i64 x1), (.int .i64 x2)]) (N := 15) [.tmp 6] Tryd.func67 rfl rfl (Nat.le_of_ble_eq_true rfl) rfl (fun a f => ?_)
 unfold D.spec_l1In at hd
 refine k_seq ?_
 refine k_region ?_
 refine l_op f rfl rfl rfl (r_assign (f.eval rfl)) (fun a f => ?_)
 refine l_nil ?_
 refine k_seq ?_
 refine k_region ?_
 refine l_op f rfl rfl rfl (r_move (f.eval rfl)) (fun a f => ?_)
 refine l_op f rfl rfl rfl (r_move (f.eval rfl)) (fun a f => ?_)
 refine l_op f rfl rfl rfl (r_int (f.eval rfl) (f.eval rfl) b_geq) (fun a f => ?_)
 refine l_op f rfl rfl rfl (r_move (f.eval rfl)) (fun a f => ?_)
 refine l_cut 4 (fun a w => ∃ G_2, GLe G G_2 ∧ Mem W G_2 w (H) ∧ Fr a 15 [(0, (.int .i64 x0)), (1, (.int .i64 x1)), (2, (.int .i64 x2)), (7, (.int .i64 x0)), (8, (.int .i64 x1)), (9, (.bool (decide (x1 ≤ x0)))), (10, (.bool (decide (x1 ≤ x0)))), (14, (.bool ((decide (x1 ≤ x0)) && (decide (x0 ≤ x2)))))]) ?_ ?_
 ·rcases Bool.eq_false_or_eq_true (decide (x1 ≤ x0)) with hc_1 | hc_1
  ·refine l_run f rfl rfl hc_1 ?_
   refine l_op f rfl rfl rfl (r_move (f.eval rfl)) (fun a f => ?_)
   refine l_run f rfl rfl hc_1 ?_
   refine l_op f rfl rfl rfl (r_move (f.eval rfl)) (fun a f => ?_)
   refine l_run f rfl rfl hc_1 ?_
   refine l_op f rfl rfl rfl (r_int (f.eval rfl) (f.eval rfl) b_leq) (fun a f => ?_)
   refine l_op f rfl rfl rfl (r_pickT (f.eval rfl) hc_1 (f.eval rfl)) (fun a f => ?_)
   exact ⟨_, (GLe.refl _), m, f.weak ⟨rfl, rfl, rfl, rfl, rfl, rfl, rfl, by rw [hc_1]; rfl, trivial⟩⟩
  ·refine l_not' f rfl rfl rfl hc_1 (fun a f => ?_)
   refine l_not' f rfl rfl rfl hc_1 (fun a f => ?_)
   refine l_not' f rfl rfl rfl hc_1 (fun a f => ?_)
   refine l_op f rfl rfl rfl (r_pickF (f.eval rfl) hc_1 (f.eval rfl)) (fun a f => ?_)
   exact ⟨_, (GLe.refl _), m, f.weak ⟨rfl, rfl, rfl, rfl, rfl, rfl, rfl, by rw [hc_1]; rfl, trivial⟩⟩
 ·rintro a w ⟨G_2, hl_3, m, f⟩
  refine l_op f rfl rfl rfl (r_assign (f.eval rfl)) (fun a f => ?_)
  refine l_nil ?_
  refine k_ret ?_
  obtain rfl := Option.some.inj hd
  exact ⟨[(.bool ((decide (x1 ≤ x0)) && (decide (x0 ≤ x2))))], ⟨f.get _ _ rfl, trivial⟩, f.defers, _, [], hl_3, m, rfl, rfl⟩

theorem Wk.spec_l1Has {W w : World} {G : GH} {H : List Itm} {v0 : Value} {x0 : (List Int)} {x1 : Int} (m : Mem W G w (H)) (h0 : RSl (RI .i64) G v0 x0) {y : Bool} (hd : D.spec_l1Has x0 x1 = some y) :
  Calls Tryd.prog 68 #[v0, (.int .i64 x1)] w (Res W G H (fun _ Ho v => Ho = [] ∧ v = (.bool y))) := by
 refine calls_b (args := [v0, (.int .i64 x1)]) (N := 18) [.tmp 4] Tryd.func68 rfl rfl (Nat.le_of_ble_eq_true rfl) rfl (fun a f => ?_)
 unfold D.spec_l1Has at hd
 refine k_seq ?_
 refine k_region ?_
 refine l_op f rfl rfl rfl (r_assign (f.eval rfl)) (fun a f => ?_)
 refine l_nil ?_
 refine k_seq ?_
 refine k_seq ?_
 refine k_region ?_
 refine l_op f rfl rfl rfl (r_assign (f.eval rfl)) (fun a f => ?_)
 refine l_nil ?_
 obtain ⟨q_19, hl_20, hd⟩ := bind_some hd
 refine k_cut (fun a w => ∃ q_19' : Unit, q_19 = .inl q_19' ∧ ∃ (G_36 : GH), GLe G G_36 ∧ Fr a 18 [] ∧ Mem W G_36 w (H)) ?_ ?_
 ·refine k_block ?_
  refine k_loop (fun s_23 a w => ∃ x_26 : Int, x_26 = s_23 ∧ ∃ (G_25 : GH), GLe G G_25 ∧ Fr a 18 [(0, v0), (1, (.int .i64 x1)), (5, (.int .i64 x_26))] ∧ Mem W G_25 w (H)) hl_20 ⟨_, rfl, _, (GLe.refl _), f.weak ⟨rfl, rfl, rfl, trivial⟩, m⟩ ?_
  clear hl_20 f m
  rintro s_23 o_24 hs_21 hq_22 a w ⟨x_26, rfl, G_25, hl_27, f, m⟩
  have h0 := RSl.mono (RI.mono _) _ _ _ _ hl_27 h0
  refine k_seq ?_
  refine k_seq ?_
  refine k_region ?_
  refine l_op f rfl rfl rfl (r_move (f.eval rfl)) (fun a f => ?_)
  refine l_op f rfl rfl rfl (r_move (f.eval rfl)) (fun a f => ?_)
  refine l_len Tryd.underlying31 f rfl rfl h0 (fun a f => ?_)
  refine l_op f rfl rfl rfl (r_int (f.eval rfl) (f.eval rfl) b_lss) (fun a f => ?_)
  refine l_nil ?_
  rcases cond_some hs_21 with ⟨hc_38, hs_21⟩ | ⟨hc_38, hs_21⟩
  ·refine k_true f rfl hc_38 ?_
   refine k_skip ?_
   refine k_seq ?_
   refine k_block ?_
   refine k_seq ?_
   refine k_region ?_
   refine l_op f rfl rfl rfl (r_move (f.eval rfl)) (fun a f => ?_)
   refine l_op f rfl rfl rfl (r_move (f.eval rfl)) (fun a f => ?_)
   obtain ⟨e_39, he_40, hs_21⟩ := bind_some hs_21
   refine l_at T31 f rfl rfl rfl h0 he_40 (fun p_41 c_42 a g_43 h_44 f => ?_)
   subst h_44
   refine l_loadAt m Pl2 f rfl rfl g_43 (fun a f => ?_)
   refine l_op f rfl rfl rfl (r_move (f.eval rfl)) (fun a f => ?_)
   refine l_op f rfl rfl rfl (r_int (f.eval rfl) (f.eval rfl) b_eql) (fun a f => ?_)
   refine l_nil ?_
   rcases cond_some hs_21 with ⟨hc_45, hs_21⟩ | ⟨hc_45, hs_21⟩
   ·refine k_true f rfl hc_45 ?_
    refine k_seq ?_
    refine k_region ?_
    refine l_op f rfl rfl rfl (r_assign (f.eval rfl)) (fun a f => ?_)
    refine l_nil ?_
    refine k_ret ?_
    obtain rfl := Option.some.inj hs_21
    obtain rfl := hq_22 _ rfl
    obtain rfl := Option.some.inj hd
    exact ⟨[(.bool true)], ⟨f.get _ _ rfl, trivial⟩, f.defers, _, [], hl_27, m, rfl, rfl⟩
   ·refine k_false f rfl hc_45 ?_
    refine k_skip ?_
    refine k_region ?_
    refine l_op f rfl rfl rfl (r_move (f.eval rfl)) (fun a f => ?_)
    refine l_op f rfl rfl rfl (r_int (f.eval rfl) (f.eval rfl) b_add) (fun a f => ?_)
    refine l_op f rfl rfl rfl (r_assign (f.eval rfl)) (fun a f => ?_)
    refine l_nil ?_
    obtain rfl := Option.some.inj hs_21
    exact ⟨_, rfl, _, rfl, _, hl_27, f.weak ⟨rfl, rfl, rfl, trivial⟩, m⟩
  ·refine k_false f rfl hc_38 ?_
   refine k_exit rfl ?_
   obtain rfl := Option.some.inj hs_21
   obtain rfl := hq_22 _ rfl
   exact ⟨_, rfl, _, hl_27, f.weak trivial, m⟩
 ·rintro a w ⟨_, rfl, G_36, hl_37, f, m⟩
  refine k_seq ?_
  refine k_region ?_
  refine l_op f rfl rfl rfl (r_assign (f.eval rfl)) (fun a f => ?_)
  refine l_nil ?_
  refine k_ret ?_
  obtain rfl := Option.some.inj hd
  exact ⟨[(.bool false)], ⟨f.get _ _ rfl, trivial⟩, f.defers, _, [], hl_37, m, rfl, rfl⟩

theorem Wk.spec_l1Size {W w : World} {G : GH} {H : List Itm} {v0_0 : Value} {x0_0 : (List (List Int))} (m : Mem W G w (H)) (h0_0 : RSl (RSl (RI .i64)) G v0_0 x0_0) {y : Int} (hd : D.spec_l1Size x0_0 = some y) :
  Calls Tryd.prog 89 #[(.agg #[v0_0])] w (Res W G H (fun _ Ho v => Ho = [] ∧ v = (.int .i64 y))) := by
 refine calls_b (args := [(.agg #[v0_0])]) (N := 6) [.tmp 2] Tryd.func89 rfl rfl (Nat.le_of_ble_eq_true rfl) rfl (fun a f => ?_)
 unfold D.spec_l1Size at hd
 refine k_seq ?_
 refine k_region ?_
 refine l_box (cs := [v0_0]) m f rfl rfl rfl (fun b_2 w a m f => ?_)
 refine l_op f rfl rfl rfl (r_assign (f.eval rfl)) (fun a f => ?_)
 refine l_nil ?_
 refine k_seq ?_
 refine k_region ?_
 refine l_fieldAddr Tryd.underlying29 rfl Tryd.sizeOf27 (by decide) f rfl rfl (fun a f => ?_)
 refine l_boxCell 0 0 m Pl27 f rfl rfl rfl rfl (fun a f => ?_)
 refine l_len Tryd.underlying27 f rfl rfl h0_0 (fun a f => ?_)
 refine l_op f rfl rfl rfl (r_assign (f.eval rfl)) (fun a f => ?_)
 refine l_nil ?_
 refine k_ret ?_
 have m : Mem W G w H := Mem.drop (H' := [Itm.box b_2 29 [v0_0]]) m
 obtain rfl := Option.some.inj hd
 exact ⟨[(.int .i64 (x0_0.length : Int))], ⟨f.get _ _ rfl, trivial⟩, f.defers, _, [], (GLe.refl _), m, rfl, rfl⟩

theorem Wk.spec_l1Copy {W w : World} {G : GH} {H : List Itm} {v0 : Value} {x0 : (List Int)} (m : Mem W G w (H)) (h0 : RSl (RI .i64) G v0 x0) {y : ((List Int))} (hd : D.spec_l1Copy x0 = some y) :
  Calls Tryd.prog 106 #[v0] w (Res W G H (fun G' Ho v => ∃ r0 : Value, ∃ i0 : Itm, Ho = [i0] ∧ r0 = v ∧ Ow (RI .i64) 2 G' i0 r0 y)) := by
 refine calls_b (args := [v0]) (N := 6) [.tmp 2] Tryd.func106 rfl rfl (Nat.le_of_ble_eq_true rfl) rfl (fun a f => ?_)
 unfold D.spec_l1Copy at hd
 refine k_seq ?_
 refine k_region ?_
 refine l_op f rfl rfl rfl (r_assign (f.eval rfl)) (fun a f => ?_)
 refine l_nil ?_
 refine k_seq ?_
 refine k_region ?_
 refine l_slit (R := (RI .i64)) (xs := ([] : List Int)) (RI.one _) m T31 f rfl rfl rfl (by decide) (All2.nil _) (fun it_1 v_2 w a m o_3 f => ?_)
 refine l_op f rfl rfl rfl (r_move (f.eval rfl)) (fun a f => ?_)
 obtain ⟨l_5, hx_6, hd⟩ := bind_some hd
 refine l_append (RI.one _) 0 m o_3 rfl T31 rfl (by decide) f rfl rfl rfl (h0.src m) hx_6 (fun it_7 v_8 w a m o_9 f => ?_)
 have m : Mem W G w (it_7 :: H) := m
 refine l_op f rfl rfl rfl (r_assign (f.eval rfl)) (fun a f => ?_)
 refine l_nil ?_
 refine k_ret ?_
 obtain rfl := Option.some.inj hd
 exact ⟨[v_8], ⟨f.get _ _ rfl, trivial⟩, f.defers, _, [it_7], (GLe.refl _), m, _, _, rfl, rfl, o_9⟩

theorem Wk.spec_l1Set {W w : World} {G : GH} {H : List Itm} {v0 : Value} {x0 : (List Int)} {x1 : Int} (m : Mem W G w (H)) (h0 : RSl (RI .i64) G v0 x0) {y : Bool} (hd : D.spec_l1Set x0 x1 = some y) :
  Calls Tryd.prog 98 #[v0, (.int .i64 x1)] w (Res W G H (fun _ Ho v => Ho = [] ∧ v = (.bool y))) := by
 refine calls_b (args := [v0, (.int .i64 x1)]) (N := 40) [.tmp 4] Tryd.func98 rfl rfl (Nat.le_of_ble_eq_true rfl) rfl (fun a f => ?_)
 unfold D.spec_l1Set at hd
 refine k_seq ?_
 refine k_region ?_
 refine l_op f rfl rfl rfl (r_assign (f.eval rfl)) (fun a f => ?_)
 refine l_nil ?_
 refine k_seq ?_
 refine k_seq ?_
 refine k_region ?_
 refine l_op f rfl rfl rfl (r_move (f.eval rfl)) (fun a f => ?_)
 refine l_len Tryd.underlying31 f rfl rfl h0 (fun a f => ?_)
 refine l_op f rfl rfl rfl (r_move (f.eval rfl)) (fun a f => ?_)
 refine l_op f rfl rfl rfl (r_int (f.eval rfl) (f.eval rfl) b_gtr) (fun a f => ?_)
 refine l_nil ?_
 rcases cond_some hd with ⟨hc_1, hd⟩ | ⟨hc_1, hd⟩
 ·refine k_true f rfl hc_1 ?_
  refine k_seq ?_
  refine k_region ?_
  refine l_op f rfl rfl rfl (r_assign (f.eval rfl)) (fun a f => ?_)
  refine l_nil ?_
  refine k_ret ?_
  obtain rfl := Option.some.inj hd
  exact ⟨[(.bool false)], ⟨f.get _ _ rfl, trivial⟩, f.defers, _, [], (GLe.refl _), m, rfl, rfl⟩
 ·refine k_false f rfl hc_1 ?_
  refine k_skip ?_
  refine k_seq ?_
  refine k_seq ?_
  refine k_region ?_
  refine l_op f rfl rfl rfl (r_assign (f.eval rfl)) (fun a f => ?_)
  refine l_nil ?_
  obtain ⟨q_150, hl_151, hd⟩ := bind_some hd
  refine k_cut (fun a w => ∃ q_150' : Unit, q_150 = .inl q_150' ∧ ∃ (G_232 : GH), GLe G G_232 ∧ Fr a 40 [] ∧ Mem W G_232 w (H)) ?_ ?_
  ·refine k_block ?_
   refine k_loop (fun s_154 a w => ∃ x_157 : Int, x_157 = s_154 ∧ ∃ (G_156 : GH), GLe G G_156 ∧ Fr a 40 [(0, v0), (1, (.int .i64 x1)), (5, (.int .i64 x_157))] ∧ Mem W G_156 w (H)) hl_151 ⟨_, rfl, _, (GLe.refl _), f.weak ⟨rfl, rfl, rfl, trivial⟩, m⟩ ?_
   clear hl_151 f m
   rintro s_154 o_155 hs_152 hq_153 a w ⟨x_157, rfl, G_156, hl_158, f, m⟩
   have h0 := RSl.mono (RI.mono _) _ _ _ _ hl_158 h0
   refine k_seq ?_
   refine k_seq ?_
   refine k_region ?_
   refine l_op f rfl rfl rfl (r_move (f.eval rfl)) (fun a f => ?_)
   refine l_op f rfl rfl rfl (r_move (f.eval rfl)) (fun a f => ?_)
   refine l_len Tryd.underlying31 f rfl rfl h0 (fun a f => ?_)
   refine l_op f rfl rfl rfl (r_int (f.eval rfl) (f.eval rfl) b_lss) (fun a f => ?_)
   refine l_nil ?_
   rcases cond_some hs_152 with ⟨hc_234, hs_152⟩ | ⟨hc_234, hs_152⟩
   ·refine k_true f rfl hc_234 ?_
    refine k_skip ?_
    refine k_seq ?_
    refine k_block ?_
    refine k_seq ?_
    refine k_draw 24 Follows (by kernel_rfl) m ?_
    refine q_op (i := 0) (listed' := #[true, false, false, false, false, false, false, false, false, false, false, false, false, false, false, false, false, false, false, false, false, false, false, false]) 24 rfl (by kernel_rfl) rfl f rfl rfl rfl (fun _ _ _ _ _ => r_move (f.eval rfl)) (fun a f => ?_)
    refine q_op (i := 1) (listed' := #[true, true, false, false, false, false, false, false, false, false, false, false, false, false, false, false, false, false, false, false, false, false, false, false]) 24 rfl (by kernel_rfl) rfl f rfl rfl rfl (fun _ _ _ _ _ => r_move (f.eval rfl)) (fun a f => ?_)
    obtain ⟨e_235, he_236, hs_152⟩ := bind_some hs_152
    refine q_at (i := 2) (listed' := #[true, true, true, false, false, false, false, false, false, false, false, false, false, false, false, false, false, false, false, false, false, false, false, false]) 24 T31 h0 he_236 rfl (by kernel_rfl) rfl f rfl rfl rfl rfl (fun p_237 c_238 a g_239 h_240 f => ?_)
    subst h_240
    refine q_loadAt (i := 3) (listed' := #[true, true, true, true, false, false, false, false, false, false, false, false, false, false, false, false, false, false, false, false, false, false, false, false]) 24 Pl2 g_239 rfl (by kernel_rfl) rfl f rfl rfl rfl (fun a f => ?_)
    refine q_op (i := 4) (listed' := #[true, true, true, true, true, false, false, false, false, false, false, false, false, false, false, false, false, false, false, false, false, false, false, false]) 24 rfl (by kernel_rfl) rfl f rfl rfl rfl (fun _ _ _ _ _ => r_move (f.eval rfl)) (fun a f => ?_)
    refine q_op (i := 5) (listed' := #[true, true, true, true, true, true, false, false, false, false, false, false, false, false, false, false, false, false, false, false, false, false, false, false]) 24 rfl (by kernel_rfl) rfl f rfl rfl rfl (fun _ _ _ _ _ => r_int (f.eval rfl) (f.eval rfl) b_sub) (fun a f => ?_)
    obtain ⟨y_241, hy_242, hs_152⟩ := bind_some hs_152
    refine q_call (i := 6) (listed' := #[true, true, true, true, true, true, true, false, false, false, false, false, false, false, false, false, false, false, false, false, false, false, false, false]) 24 rfl (by kernel_rfl) rfl f rfl rfl rfl Tryd.call67 (fun _ _ w hG_243 m => Wk.spec_l1In m  hy_242) (fun a f => ?_)
    refine q_op (i := 7) (listed' := #[true, true, true, true, true, true, true, true, false, false, false, false, false, false, false, false, false, false, false, false, false, false, false, false]) 24 rfl (by kernel_rfl) rfl f rfl rfl rfl (fun _ _ _ _ _ => r_not (f.eval rfl)) (fun a f => ?_)
    refine q_op (i := 8) (listed' := #[true, true, true, true, true, true, true, true, true, false, false, false, false, false, false, false, false, false, false, false, false, false, false, false]) 24 rfl (by kernel_rfl) rfl f rfl rfl rfl (fun _ _ _ _ _ => r_move (f.eval rfl)) (fun a f => ?_)
    obtain ⟨b_274, hj_275, hs_152⟩ := bind_some hs_152
    refine q_cut (fuel' := 0) (listed' := #[true, true, true, true, true, true, true, true, true, true, true, true, true, true, true, true, true, true, true, true, true, true, true, true]) (fun a => Fr a 40 [(0, v0), (1, (.int .i64 x1)), (5, (.int .i64 x_157)), (13, (.bool (decide (x_157 < (x0.length : Int))))), (16, v0), (17, (.int .i64 x_157)), (18, p_237), (19, (.int .i64 e_235)), (20, (.int .i64 x1)), (21, (.int .i64 (IntKind.i64.wrap (x1 - 1)))), (22, (.bool y_241)), (23, (.bool (!y_241))), (24, (.bool (!y_241))), (39, (.bool b_274))]) ?_ ?_
    ·intro a f
     refine q_end (fun G_304 w hl_305 m => ?_)
     have h0 := RSl.mono (RI.mono _) _ _ _ _ hl_305 h0
     have g_239 := At.mono hl_305 g_239
     have m : Mem W G_304 w (H) := m
     refine l_nil ?_
     rcases cond_some hs_152 with ⟨hc_306, hs_152⟩ | ⟨hc_306, hs_152⟩
     ·refine k_true f rfl hc_306 ?_
      refine k_seq ?_
      refine k_region ?_
      refine l_op f rfl rfl rfl (r_assign (f.eval rfl)) (fun a f => ?_)
      refine l_nil ?_
      refine k_ret ?_
      obtain rfl := Option.some.inj hs_152
      obtain rfl := hq_153 _ rfl
      obtain rfl := Option.some.inj hd
      exact ⟨[(.bool false)], ⟨f.get _ _ rfl, trivial⟩, f.defers, _, [], (GLe.trans hl_158 hl_305), m, rfl, rfl⟩
     ·refine k_false f rfl hc_306 ?_
      refine k_skip ?_
      refine k_region ?_
      refine l_op f rfl rfl rfl (r_move (f.eval rfl)) (fun a f => ?_)
      refine l_op f rfl rfl rfl (r_int (f.eval rfl) (f.eval rfl) b_add) (fun a f => ?_)
      refine l_op f rfl rfl rfl (r_assign (f.eval rfl)) (fun a f => ?_)
      refine l_nil ?_
      obtain rfl := Option.some.inj hs_152
      exact ⟨_, rfl, _, rfl, _, (GLe.trans hl_158 hl_305), f.weak ⟨rfl, rfl, rfl, trivial⟩, m⟩
    ·intro K_273
     rcases cond_some hj_275 with ⟨hc_244, hj_275⟩ | ⟨hc_244, hj_275⟩
     ·refine q_not (i := 9) (listed' := #[true, true, true, true, true, true, true, true, true, true, false, false, false, false, false, false, false, false, false, false, false, false, false, false]) 24 rfl (by kernel_rfl) rfl f rfl rfl rfl hc_244 rfl rfl (fun a f => ?_)
      refine q_not (i := 10) (listed' := #[true, true, true, true, true, true, true, true, true, true, true, false, false, false, false, false, false, false, false, false, false, false, false, false]) 24 rfl (by kernel_rfl) rfl f rfl rfl rfl hc_244 rfl rfl (fun a f => ?_)
      refine q_not (i := 11) (listed' := #[true, true, true, true, true, true, true, true, true, true, true, true, false, false, false, false, false, false, false, false, false, false, false, false]) 24 rfl (by kernel_rfl) rfl f rfl rfl rfl hc_244 rfl rfl (fun a f => ?_)
      refine q_notU (i := 12) (listed' := #[true, true, true, true, true, true, true, true, true, true, true, true, true, false, false, false, false, false, false, false, false, false, false, false]) 24 rfl (by kernel_rfl) rfl f rfl rfl rfl rfl rfl (fun a f => ?_)
      refine q_notU (i := 13) (listed' := #[true, true, true, true, true, true, true, true, true, true, true, true, true, true, false, false, false, false, false, false, false, false, false, false]) 24 rfl (by kernel_rfl) rfl f rfl rfl rfl rfl rfl (fun a f => ?_)
      refine q_notU (i := 14) (listed' := #[true, true, true, true, true, true, true, true, true, true, true, true, true, true, true, false, false, false, false, false, false, false, false, false]) 24 rfl (by kernel_rfl) rfl f rfl rfl rfl rfl rfl (fun a f => ?_)
      refine q_notU (i := 15) (listed' := #[true, true, true, true, true, true, true, true, true, true, true, true, true, true, true, true, false, false, false, false, false, false, false, false]) 24 rfl (by kernel_rfl) rfl f rfl rfl rfl rfl rfl (fun a f => ?_)
      refine q_notU (i := 16) (listed' := #[true, true, true, true, true, true, true, true, true, true, true, true, true, true, true, true, true, false, false, false, false, false, false, false]) 24 rfl (by kernel_rfl) rfl f rfl rfl rfl rfl rfl (fun a f => ?_)
      refine q_notU (i := 17) (listed' := #[true, true, true, true, true, true, true, true, true, true, true, true, true, true, true, true, true, true, false, false, false, false, false, false]) 24 rfl (by kernel_rfl) rfl f rfl rfl rfl rfl rfl (fun a f => ?_)
      refine q_notU (i := 18) (listed' := #[true, true, true, true, true, true, true, true, true, true, true, true, true, true, true, true, true, true, true, false, false, false, false, false]) 24 rfl (by kernel_rfl) rfl f rfl rfl rfl rfl rfl (fun a f => ?_)
      refine q_notU (i := 19) (listed' := #[true, true, true, true, true, true, true, true, true, true, true, true, true, true, true, true, true, true, true, true, false, false, false, false]) 24 rfl (by kernel_rfl) rfl f rfl rfl rfl rfl rfl (fun a f => ?_)
      refine q_notU (i := 20) (listed' := #[true, true, true, true, true, true, true, true, true, true, true, true, true, true, true, true, true, true, true, true, true, false, false, false]) 24 rfl (by kernel_rfl) rfl f rfl rfl rfl rfl rfl (fun a f => ?_)
      refine q_notU (i := 21) (listed' := #[true, true, true, true, true, true, true, true, true, true, true, true, true, true, true, true, true, true, true, true, true, true, false, false]) 24 rfl (by kernel_rfl) rfl f rfl rfl rfl rfl rfl (fun a f => ?_)
      refine q_not (i := 22) (listed' := #[true, true, true, true, true, true, true, true, true, true, true, true, true, true, true, true, true, true, true, true, true, true, true, false]) 24 rfl (by kernel_rfl) rfl f rfl rfl rfl hc_244 rfl rfl (fun a f => ?_)
      refine q_op (i := 23) (listed' := #[true, true, true, true, true, true, true, true, true, true, true, true, true, true, true, true, true, true, true, true, true, true, true, true]) 24 rfl (by kernel_rfl) rfl f rfl rfl rfl (fun _ _ _ _ _ => r_pickT (f.eval rfl) hc_244 (f.eval rfl)) (fun a f => ?_)
      obtain rfl := Option.some.inj hj_275
      exact K_273 _ (f.weak ⟨rfl, rfl, rfl, rfl, rfl, rfl, rfl, rfl, rfl, rfl, rfl, rfl, rfl, rfl, trivial⟩)
     ·refine q_op (i := 9) (listed' := #[true, true, true, true, true, true, true, true, true, true, false, false, false, false, false, false, false, false, false, false, false, false, false, false]) 24 rfl (by kernel_rfl) rfl f (wanted_of f rfl rfl rfl hc_244) rfl rfl (fun _ _ _ _ _ => r_move (f.eval rfl)) (fun a f => ?_)
      refine q_op (i := 10) (listed' := #[true, true, true, true, true, true, true, true, true, true, true, false, false, false, false, false, false, false, false, false, false, false, false, false]) 24 rfl (by kernel_rfl) rfl f (wanted_of f rfl rfl rfl hc_244) rfl rfl (fun _ _ _ _ _ => r_int (f.eval rfl) (f.eval rfl) b_gtr) (fun a f => ?_)
      refine q_op (i := 11) (listed' := #[true, true, true, true, true, true, true, true, true, true, true, true, false, false, false, false, false, false, false, false, false, false, false, false]) 24 rfl (by kernel_rfl) rfl f (wanted_of f rfl rfl rfl hc_244) rfl rfl (fun _ _ _ _ _ => r_move (f.eval rfl)) (fun a f => ?_)
      obtain ⟨b_290, hj_291, hj_275⟩ := bind_some hj_275
      refine q_cut (fuel' := 1) (listed' := #[true, true, true, true, true, true, true, true, true, true, true, true, true, true, true, true, true, true, true, true, true, true, true, false]) (fun a => Fr a 40 [(0, v0), (1, (.int .i64 x1)), (5, (.int .i64 x_157)), (13, (.bool (decide (x_157 < (x0.length : Int))))), (16, v0), (17, (.int .i64 x_157)), (18, p_237), (19, (.int .i64 e_235)), (20, (.int .i64 x1)), (21, (.int .i64 (IntKind.i64.wrap (x1 - 1)))), (22, (.bool y_241)), (23, (.bool (!y_241))), (24, (.bool (!y_241))), (25, (.int .i64 x_157)), (26, (.bool (decide ((0 : Int) < x_157)))), (27, (.bool (decide ((0 : Int) < x_157)))), (38, (.bool b_290))]) ?_ ?_
      ·intro a f
       refine q_op (i := 23) (listed' := #[true, true, true, true, true, true, true, true, true, true, true, true, true, true, true, true, true, true, true, true, true, true, true, true]) 24 rfl (by kernel_rfl) rfl f rfl rfl rfl (fun _ _ _ _ _ => r_pickF (f.eval rfl) hc_244 (f.eval rfl)) (fun a f => ?_)
       obtain rfl := Option.some.inj hj_275
       exact K_273 _ (f.weak ⟨rfl, rfl, rfl, rfl, rfl, rfl, rfl, rfl, rfl, rfl, rfl, rfl, rfl, rfl, trivial⟩)
      ·intro K_289
       rcases cond_some hj_291 with ⟨hc_276, hj_291⟩ | ⟨hc_276, hj_291⟩
       ·refine q_op (i := 12) (listed' := #[true, true, true, true, true, true, true, true, true, true, true, true, true, false, false, false, false, false, false, false, false, false, false, false]) 24 rfl (by kernel_rfl) rfl f (wanted_of f rfl rfl rfl hc_276) rfl rfl (fun _ _ _ _ _ => r_move (f.eval rfl)) (fun a f => ?_)
        refine q_op (i := 13) (listed' := #[true, true, true, true, true, true, true, true, true, true, true, true, true, true, false, false, false, false, false, false, false, false, false, false]) 24 rfl (by kernel_rfl) rfl f (wanted_of f rfl rfl rfl hc_276) rfl rfl (fun _ _ _ _ _ => r_move (f.eval rfl)) (fun a f => ?_)
        obtain ⟨e_292, he_293, hj_291⟩ := bind_some hj_291
        refine q_at (i := 14) (listed' := #[true, true, true, true, true, true, true, true, true, true, true, true, true, true, true, false, false, false, false, false, false, false, false, false]) 24 T31 h0 he_293 rfl (by kernel_rfl) rfl f (wanted_of f rfl rfl rfl hc_276) rfl rfl rfl (fun p_294 c_295 a g_296 h_297 f => ?_)
        subst h_297
        refine q_loadAt (i := 15) (listed' := #[true, true, true, true, true, true, true, true, true, true, true, true, true, true, true, true, false, false, false, false, false, false, false, false]) 24 Pl2 g_296 rfl (by kernel_rfl) rfl f (wanted_of f rfl rfl rfl hc_276) rfl rfl (fun a f => ?_)
        refine q_op (i := 16) (listed' := #[true, true, true, true, true, true, true, true, true, true, true, true, true, true, true, true, true, false, false, false, false, false, false, false]) 24 rfl (by kernel_rfl) rfl f (wanted_of f rfl rfl rfl hc_276) rfl rfl (fun _ _ _ _ _ => r_move (f.eval rfl)) (fun a f => ?_)
        refine q_op (i := 17) (listed' := #[true, true, true, true, true, true, true, true, true, true, true, true, true, true, true, true, true, true, false, false, false, false, false, false]) 24 rfl (by kernel_rfl) rfl f (wanted_of f rfl rfl rfl hc_276) rfl rfl (fun _ _ _ _ _ => r_move (f.eval rfl)) (fun a f => ?_)
        refine q_op (i := 18) (listed' := #[true, true, true, true, true, true, true, true, true, true, true, true, true, true, true, true, true, true, true, false, false, false, false, false]) 24 rfl (by kernel_rfl) rfl f (wanted_of f rfl rfl rfl hc_276) rfl rfl (fun _ _ _ _ _ => r_int (f.eval rfl) (f.eval rfl) b_sub) (fun a f => ?_)
        obtain ⟨e_298, he_299, hj_291⟩ := bind_some hj_291
        refine q_at (i := 19) (listed' := #[true, true, true, true, true, true, true, true, true, true, true, true, true, true, true, true, true, true, true, true, false, false, false, false]) 24 T31 h0 he_299 rfl (by kernel_rfl) rfl f (wanted_of f rfl rfl rfl hc_276) rfl rfl rfl (fun p_300 c_301 a g_302 h_303 f => ?_)
        subst h_303
        refine q_loadAt (i := 20) (listed' := #[true, true, true, true, true, true, true, true, true, true, true, true, true, true, true, true, true, true, true, true, true, false, false, false]) 24 Pl2 g_302 rfl (by kernel_rfl) rfl f (wanted_of f rfl rfl rfl hc_276) rfl rfl (fun a f => ?_)
        refine q_op (i := 21) (listed' := #[true, true, true, true, true, true, true, true, true, true, true, true, true, true, true, true, true, true, true, true, true, true, false, false]) 24 rfl (by kernel_rfl) rfl f (wanted_of f rfl rfl rfl hc_276) rfl rfl (fun _ _ _ _ _ => r_int (f.eval rfl) (f.eval rfl) b_leq) (fun a f => ?_)
        refine q_op (i := 22) (listed' := #[true, true, true, true, true, true, true, true, true, true, true, true, true, true, true, true, true, true, true, true, true, true, true, false]) 24 rfl (by kernel_rfl) rfl f (wanted_of f rfl rfl rfl hc_244) rfl rfl (fun _ _ _ _ _ => r_pickT (f.eval rfl) hc_276 (f.eval rfl)) (fun a f => ?_)
        obtain rfl := Option.some.inj hj_291
        exact K_289 _ (f.weak ⟨rfl, rfl, rfl, rfl, rfl, rfl, rfl, rfl, rfl, rfl, rfl, rfl, rfl, rfl, rfl, rfl, rfl, trivial⟩)
       ·refine q_not (i := 12) (listed' := #[true, true, true, true, true, true, true, true, true, true, true, true, true, false, false, false, false, false, false, false, false, false, false, false]) 24 rfl (by kernel_rfl) rfl f rfl rfl rfl hc_276 rfl rfl (fun a f => ?_)
        refine q_not (i := 13) (listed' := #[true, true, true, true, true, true, true, true, true, true, true, true, true, true, false, false, false, false, false, false, false, false, false, false]) 24 rfl (by kernel_rfl) rfl f rfl rfl rfl hc_276 rfl rfl (fun a f => ?_)
        refine q_not (i := 14) (listed' := #[true, true, true, true, true, true, true, true, true, true, true, true, true, true, true, false, false, false, false, false, false, false, false, false]) 24 rfl (by kernel_rfl) rfl f rfl rfl rfl hc_276 rfl rfl (fun a f => ?_)
        refine q_not (i := 15) (listed' := #[true, true, true, true, true, true, true, true, true, true, true, true, true, true, true, true, false, false, false, false, false, false, false, false]) 24 rfl (by kernel_rfl) rfl f rfl rfl rfl hc_276 rfl rfl (fun a f => ?_)
        refine q_not (i := 16) (listed' := #[true, true, true, true, true, true, true, true, true, true, true, true, true, true, true, true, true, false, false, false, false, false, false, false]) 24 rfl (by kernel_rfl) rfl f rfl rfl rfl hc_276 rfl rfl (fun a f => ?_)
        refine q_not (i := 17) (listed' := #[true, true, true, true, true, true, true, true, true, true, true, true, true, true, true, true, true, true, false, false, false, false, false, false]) 24 rfl (by kernel_rfl) rfl f rfl rfl rfl hc_276 rfl rfl (fun a f => ?_)
        refine q_not (i := 18) (listed' := #[true, true, true, true, true, true, true, true, true, true, true, true, true, true, true, true, true, true, true, false, false, false, false, false]) 24 rfl (by kernel_rfl) rfl f rfl rfl rfl hc_276 rfl rfl (fun a f => ?_)
        refine q_not (i := 19) (listed' := #[true, true, true, true, true, true, true, true, true, true, true, true, true, true, true, true, true, true, true, true, false, false, false, false]) 24 rfl (by kernel_rfl) rfl f rfl rfl rfl hc_276 rfl rfl (fun a f => ?_)
        refine q_not (i := 20) (listed' := #[true, true, true, true, true, true, true, true, true, true, true, true, true, true, true, true, true, true, true, true, true, false, false, false]) 24 rfl (by kernel_rfl) rfl f rfl rfl rfl hc_276 rfl rfl (fun a f => ?_)
        refine q_not (i := 21) (listed' := #[true, true, true, true, true, true, true, true, true, true, true, true, true, true, true, true, true, true, true, true, true, true, false, false]) 24 rfl (by kernel_rfl) rfl f rfl rfl rfl hc_276 rfl rfl (fun a f => ?_)
        refine q_op (i := 22) (listed' := #[true, true, true, true, true, true, true, true, true, true, true, true, true, true, true, true, true, true, true, true, true, true, true, false]) 24 rfl (by kernel_rfl) rfl f (wanted_of f rfl rfl rfl hc_244) rfl rfl (fun _ _ _ _ _ => r_pickF (f.eval rfl) hc_276 (f.eval rfl)) (fun a f => ?_)
        obtain rfl := Option.some.inj hj_291
        exact K_289 _ (f.weak ⟨rfl, rfl, rfl, rfl, rfl, rfl, rfl, rfl, rfl, rfl, rfl, rfl, rfl, rfl, rfl, rfl, rfl, trivial⟩)
   ·refine k_false f rfl hc_234 ?_
    refine k_exit rfl ?_
    obtain rfl := Option.some.inj hs_152
    obtain rfl := hq_153 _ rfl
    exact ⟨_, rfl, _, hl_158, f.weak trivial, m⟩
  ·rintro a w ⟨_, rfl, G_232, hl_233, f, m⟩
   refine k_seq ?_
   refine k_region ?_
   refine l_op f rfl rfl rfl (r_assign (f.eval rfl)) (fun a f => ?_)
   refine l_nil ?_
   refine k_ret ?_
   obtain rfl := Option.some.inj hd
   exact ⟨[(.bool true)], ⟨f.get _ _ rfl, trivial⟩, f.defers, _, [], hl_233, m, rfl, rfl⟩

theorem Wk.spec_GraphOk {W w : World} {G : GH} {H : List Itm} {v0_0 : Value} {x0_0 : (List (List Int))} (m : Mem W G w (H)) (h0_0 : RSl (RSl (RI .i64)) G v0_0 x0_0) {y : Bool} (hd : D.spec_GraphOk x0_0 = some y) :
  Calls Tryd.prog 51 #[(.agg #[v0_0])] w (Res W G H (fun _ Ho v => Ho = [] ∧ v = (.bool y))) := by
 refine calls_b (args := [(.agg #[v0_0])]) (N := 64) [.tmp 2] Tryd.func51 rfl rfl (Nat.le_of_ble_eq_true rfl) rfl (fun a f => ?_)
 unfold D.spec_GraphOk at hd
 refine k_seq ?_
 refine k_region ?_
 refine l_box (cs := [v0_0]) m f rfl rfl rfl (fun b_2 w a m f => ?_)
 refine l_op f rfl rfl rfl (r_assign (f.eval rfl)) (fun a f => ?_)
 refine l_nil ?_
 refine k_seq ?_
 refine k_region ?_
 refine l_boxAgg 0 0 (ds := [v0_0]) m Ag29 f rfl rfl rfl rfl rfl (fun a f => ?_)
 obtain ⟨y_3, hy_4, hd⟩ := bind_some hd
 refine l_res f rfl rfl Tryd.call89 (Wk.spec_l1Size m h0_0 hy_4) (fun v_8 G_5 Ho_9 w hl_6 m hQ_7 a f => ?_)
 obtain ⟨rfl, rfl⟩ := hQ_7
 have h0_0 := RSl.mono (RSl.mono (RI.mono _)) _ _ _ _ hl_6 h0_0
 have m : Mem W G_5 w (Itm.box b_2 29 [v0_0] :: H) := m
 refine l_op f rfl rfl rfl (r_assign (f.eval rfl)) (fun a f => ?_)
 refine l_nil ?_
 refine k_seq ?_
 refine k_seq ?_
 refine k_region ?_
 refine l_op f rfl rfl rfl (r_move (f.eval rfl)) (fun a f => ?_)
 obtain ⟨y_10, hy_11, hd⟩ := bind_some hd
 refine l_res f rfl rfl Tryd.call67 (Wk.spec_l1In m  hy_11) (fun v_15 G_12 Ho_16 w hl_13 m hQ_14 a f => ?_)
 obtain ⟨rfl, rfl⟩ := hQ_14
 have h0_0 := RSl.mono (RSl.mono (RI.mono _)) _ _ _ _ hl_13 h0_0
 have m : Mem W G_12 w (Itm.box b_2 29 [v0_0] :: H) := m
 refine l_op f rfl rfl rfl (r_not (f.eval rfl)) (fun a f => ?_)
 refine l_nil ?_
 rcases cond_some hd with ⟨hc_17, hd⟩ | ⟨hc_17, hd⟩
 ·refine k_true f rfl hc_17 ?_
  refine k_seq ?_
  refine k_region ?_
  refine l_op f rfl rfl rfl (r_assign (f.eval rfl)) (fun a f => ?_)
  refine l_nil ?_
  refine k_ret ?_
  have m : Mem W G_12 w H := Mem.drop (H' := [Itm.box b_2 29 [v0_0]]) m
  obtain rfl := Option.some.inj hd
  exact ⟨[(.bool false)], ⟨f.get _ _ rfl, trivial⟩, f.defers, _, [], (GLe.trans hl_6 hl_13), m, rfl, rfl⟩
 ·refine k_false f rfl hc_17 ?_
  refine k_skip ?_
  refine k_seq ?_
  refine k_seq ?_
  refine k_region ?_
  refine l_op f rfl rfl rfl (r_assign (f.eval rfl)) (fun a f => ?_)
  refine l_nil ?_
  obtain ⟨q_138, hl_139, hd⟩ := bind_some hd
  refine k_cut (fun a w => ∃ q_138' : Unit, q_138 = .inl q_138' ∧ ∃ (G_206 : GH), GLe G_12 G_206 ∧ Fr a 64 [(1, (.pointer (some ⟨b_2, 0, none⟩))), (3, (.int .i64 y_3))] ∧ Mem W G_206 w (Itm.box b_2 29 [v0_0] :: H)) ?_ ?_
  ·refine k_block ?_
   refine k_loop (fun s_142 a w => ∃ x_145 : Int, x_145 = s_142 ∧ ∃ (G_144 : GH), GLe G_12 G_144 ∧ Fr a 64 [(1, (.pointer (some ⟨b_2, 0, none⟩))), (3, (.int .i64 y_3)), (4, (.int .i64 x_145))] ∧ Mem W G_144 w (Itm.box b_2 29 [v0_0] :: H)) hl_139 ⟨_, rfl, _, (GLe.refl _), f.weak ⟨rfl, rfl, rfl, trivial⟩, m⟩ ?_
   clear hl_139 f m
   rintro s_142 o_143 hs_140 hq_141 a w ⟨x_145, rfl, G_144, hl_146, f, m⟩
   have h0_0 := RSl.mono (RSl.mono (RI.mono _)) _ _ _ _ hl_146 h0_0
   refine k_seq ?_
   refine k_seq ?_
   refine k_region ?_
   refine l_op f rfl rfl rfl (r_move (f.eval rfl)) (fun a f => ?_)
   refine l_op f rfl rfl rfl (r_move (f.eval rfl)) (fun a f => ?_)
   refine l_op f rfl rfl rfl (r_int (f.eval rfl) (f.eval rfl) b_lss) (fun a f => ?_)
   refine l_nil ?_
   rcases cond_some hs_140 with ⟨hc_208, hs_140⟩ | ⟨hc_208, hs_140⟩
   ·refine k_true f rfl hc_208 ?_
    refine k_skip ?_
    refine k_seq ?_
    refine k_block ?_
    refine k_seq ?_
    refine k_region ?_
    refine l_fieldAddr Tryd.underlying29 rfl Tryd.sizeOf27 (by decide) f rfl rfl (fun a f => ?_)
    refine l_boxCell 0 0 m Pl27 f rfl rfl rfl rfl (fun a f => ?_)
    refine l_op f rfl rfl rfl (r_move (f.eval rfl)) (fun a f => ?_)
    obtain ⟨e_209, he_210, hs_140⟩ := bind_some hs_140
    refine l_at T27 f rfl rfl rfl h0_0 he_210 (fun p_211 c_212 a g_213 h_214 f => ?_)
    refine l_loadAt m Pl31 f rfl rfl g_213 (fun a f => ?_)
    refine l_op f rfl rfl rfl (r_move (f.eval rfl)) (fun a f => ?_)
    obtain ⟨y_215, hy_216, hs_140⟩ := bind_some hs_140
    refine l_res f rfl rfl Tryd.call98 (Wk.spec_l1Set m h_214 hy_216) (fun v_220 G_217 Ho_221 w hl_218 m hQ_219 a f => ?_)
    obtain ⟨rfl, rfl⟩ := hQ_219
    have h0_0 := RSl.mono (RSl.mono (RI.mono _)) _ _ _ _ hl_218 h0_0
    have g_213 := At.mono hl_218 g_213
    have h_214 := RSl.mono (RI.mono _) _ _ _ _ hl_218 h_214
    have m : Mem W G_217 w (Itm.box b_2 29 [v0_0] :: H) := m
    refine l_op f rfl rfl rfl (r_not (f.eval rfl)) (fun a f => ?_)
    refine l_op f rfl rfl rfl (r_move (f.eval rfl)) (fun a f => ?_)
    obtain ⟨b_251, hj_252, hs_140⟩ := bind_some hs_140
    refine l_cut 8 (fun a w => ∃ G_249, GLe G_217 G_249 ∧ Mem W G_249 w (Itm.box b_2 29 [v0_0] :: H) ∧ Fr a 64 [(1, (.pointer (some ⟨b_2, 0, none⟩))), (3, (.int .i64 y_3)), (4, (.int .i64 x_145)), (14, (.bool (decide (x_145 < y_3)))), (17, (.pointer (some ⟨b_2, 0, none⟩))), (18, v0_0), (19, (.int .i64 x_145)), (20, p_211), (21, c_212), (22, (.int .i64 y_3)), (23, (.bool y_215)), (24, (.bool (!y_215))), (25, (.bool (!y_215))), (33, (.bool b_251))]) ?_ ?_
    ·rcases cond_some hj_252 with ⟨hc_222, hj_252⟩ | ⟨hc_222, hj_252⟩
     ·refine l_not' f rfl rfl rfl hc_222 (fun a f => ?_)
      refine l_not' f rfl rfl rfl hc_222 (fun a f => ?_)
      refine l_not' f rfl rfl rfl hc_222 (fun a f => ?_)
      refine l_not' f rfl rfl rfl hc_222 (fun a f => ?_)
      refine l_not' f rfl rfl rfl hc_222 (fun a f => ?_)
      refine l_not' f rfl rfl rfl hc_222 (fun a f => ?_)
      refine l_not' f rfl rfl rfl hc_222 (fun a f => ?_)
      refine l_op f rfl rfl rfl (r_pickT (f.eval rfl) hc_222 (f.eval rfl)) (fun a f => ?_)
      obtain rfl := Option.some.inj hj_252
      exact ⟨_, (GLe.refl _), m, f.weak ⟨rfl, rfl, rfl, rfl, rfl, rfl, rfl, rfl, rfl, rfl, rfl, rfl, rfl, rfl, trivial⟩⟩
     ·refine l_run f rfl rfl hc_222 ?_
      refine l_fieldAddr Tryd.underlying29 rfl Tryd.sizeOf27 (by decide) f rfl rfl (fun a f => ?_)
      refine l_run f rfl rfl hc_222 ?_
      refine l_boxCell 0 0 m Pl27 f rfl rfl rfl rfl (fun a f => ?_)
      refine l_run f rfl rfl hc_222 ?_
      refine l_op f rfl rfl rfl (r_move (f.eval rfl)) (fun a f => ?_)
      refine l_run f rfl rfl hc_222 ?_
      obtain ⟨e_253, he_254, hj_252⟩ := bind_some hj_252
      refine l_at T27 f rfl rfl rfl h0_0 he_254 (fun p_255 c_256 a g_257 h_258 f => ?_)
      refine l_run f rfl rfl hc_222 ?_
      refine l_loadAt m Pl31 f rfl rfl g_257 (fun a f => ?_)
      refine l_run f rfl rfl hc_222 ?_
      refine l_op f rfl rfl rfl (r_move (f.eval rfl)) (fun a f => ?_)
      refine l_run f rfl rfl hc_222 ?_
      obtain ⟨y_259, hy_260, hj_252⟩ := bind_some hj_252
      refine l_res f rfl rfl Tryd.call68 (Wk.spec_l1Has m h_258 hy_260) (fun v_264 G_261 Ho_265 w hl_262 m hQ_263 a f => ?_)
      obtain ⟨rfl, rfl⟩ := hQ_263
      have h0_0 := RSl.mono (RSl.mono (RI.mono _)) _ _ _ _ hl_262 h0_0
      have g_213 := At.mono hl_262 g_213
      have h_214 := RSl.mono (RI.mono _) _ _ _ _ hl_262 h_214
      have g_257 := At.mono hl_262 g_257
      have h_258 := RSl.mono (RI.mono _) _ _ _ _ hl_262 h_258
      have m : Mem W G_261 w (Itm.box b_2 29 [v0_0] :: H) := m
      refine l_op f rfl rfl rfl (r_pickF (f.eval rfl) hc_222 (f.eval rfl)) (fun a f => ?_)
      obtain rfl := Option.some.inj hj_252
      exact ⟨_, hl_262, m, f.weak ⟨rfl, rfl, rfl, rfl, rfl, rfl, rfl, rfl, rfl, rfl, rfl, rfl, rfl, rfl, trivial⟩⟩
    ·rintro a w ⟨G_249, hl_250, m, f⟩
     have h0_0 := RSl.mono (RSl.mono (RI.mono _)) _ _ _ _ hl_250 h0_0
     have g_213 := At.mono hl_250 g_213
     have h_214 := RSl.mono (RI.mono _) _ _ _ _ hl_250 h_214
     refine l_nil ?_
     rcases cond_some hs_140 with ⟨hc_266, hs_140⟩ | ⟨hc_266, hs_140⟩
     ·refine k_true f rfl hc_266 ?_
      refine k_seq ?_
      refine k_region ?_
      refine l_op f rfl rfl rfl (r_assign (f.eval rfl)) (fun a f => ?_)
      refine l_nil ?_
      refine k_ret ?_
      have m : Mem W G_249 w H := Mem.drop (H' := [Itm.box b_2 29 [v0_0]]) m
      obtain rfl := Option.some.inj hs_140
      obtain rfl := hq_141 _ rfl
      obtain rfl := Option.some.inj hd
      exact ⟨[(.bool false)], ⟨f.get _ _ rfl, trivial⟩, f.defers, _, [], (GLe.trans hl_6 (GLe.trans hl_13 (GLe.trans hl_146 (GLe.trans hl_218 hl_250)))), m, rfl, rfl⟩
     ·refine k_false f rfl hc_266 ?_
      refine k_skip ?_
      refine k_region ?_
      refine l_op f rfl rfl rfl (r_move (f.eval rfl)) (fun a f => ?_)
      refine l_op f rfl rfl rfl (r_int (f.eval rfl) (f.eval rfl) b_add) (fun a f => ?_)
      refine l_op f rfl rfl rfl (r_assign (f.eval rfl)) (fun a f => ?_)
      refine l_nil ?_
      obtain rfl := Option.some.inj hs_140
      exact ⟨_, rfl, _, rfl, _, (GLe.trans hl_146 (GLe.trans hl_218 hl_250)), f.weak ⟨rfl, rfl, rfl, trivial⟩, m⟩
   ·refine k_false f rfl hc_208 ?_
    refine k_exit rfl ?_
    obtain rfl := Option.some.inj hs_140
    obtain rfl := hq_141 _ rfl
    exact ⟨_, rfl, _, hl_146, f.weak ⟨rfl, rfl, trivial⟩, m⟩
  ·rintro a w ⟨_, rfl, G_206, hl_207, f, m⟩
   have h0_0 := RSl.mono (RSl.mono (RI.mono _)) _ _ _ _ hl_207 h0_0
   refine k_seq ?_
   refine k_seq ?_
   refine k_region ?_
   refine l_op f rfl rfl rfl (r_assign (f.eval rfl)) (fun a f => ?_)
   refine l_nil ?_
   obtain ⟨q_545, hl_546, hd⟩ := bind_some hd
   refine k_cut (fun a w => ∃ q_545' : Unit, q_545 = .inl q_545' ∧ ∃ (G_692 : GH), GLe G_206 G_692 ∧ Fr a 64 [] ∧ Mem W G_692 w (H)) ?_ ?_
   ·refine k_block ?_
    refine k_loop (fun s_549 a w => ∃ x_552 : Int, x_552 = s_549 ∧ ∃ (G_551 : GH), GLe G_206 G_551 ∧ Fr a 64 [(1, (.pointer (some ⟨b_2, 0, none⟩))), (3, (.int .i64 y_3)), (5, (.int .i64 x_552))] ∧ Mem W G_551 w (Itm.box b_2 29 [v0_0] :: H)) hl_546 ⟨_, rfl, _, (GLe.refl _), f.weak ⟨rfl, rfl, rfl, trivial⟩, m⟩ ?_
    clear hl_546 f m
    rintro s_549 o_550 hs_547 hq_548 a w ⟨x_552, rfl, G_551, hl_553, f, m⟩
    have h0_0 := RSl.mono (RSl.mono (RI.mono _)) _ _ _ _ hl_553 h0_0
    refine k_seq ?_
    refine k_seq ?_
    refine k_region ?_
    refine l_op f rfl rfl rfl (r_move (f.eval rfl)) (fun a f => ?_)
    refine l_op f rfl rfl rfl (r_move (f.eval rfl)) (fun a f => ?_)
    refine l_op f rfl rfl rfl (r_int (f.eval rfl) (f.eval rfl) b_lss) (fun a f => ?_)
    refine l_nil ?_
    rcases cond_some hs_547 with ⟨hc_694, hs_547⟩ | ⟨hc_694, hs_547⟩
    ·refine k_true f rfl hc_694 ?_
     refine k_skip ?_
     refine k_seq ?_
     refine k_block ?_
     refine k_seq ?_
     refine k_region ?_
     refine l_op f rfl rfl rfl (r_assign (f.eval rfl)) (fun a f => ?_)
     refine l_nil ?_
     obtain ⟨q_759, hl_760, hs_547⟩ := bind_some hs_547
     refine k_cut (fun a w => ∃ q_759' : Unit, q_759 = .inl q_759' ∧ ∃ (G_799 : GH), GLe G_551 G_799 ∧ Fr a 64 [(1, (.pointer (some ⟨b_2, 0, none⟩))), (3, (.int .i64 y_3)), (5, (.int .i64 x_552))] ∧ Mem W G_799 w (Itm.box b_2 29 [v0_0] :: H)) ?_ ?_
     ·refine k_block ?_
      refine k_loop (fun s_763 a w => ∃ x_766 : Int, x_766 = s_763 ∧ ∃ (G_765 : GH), GLe G_551 G_765 ∧ Fr a 64 [(1, (.pointer (some ⟨b_2, 0, none⟩))), (3, (.int .i64 y_3)), (5, (.int .i64 x_552)), (6, (.int .i64 x_766))] ∧ Mem W G_765 w (Itm.box b_2 29 [v0_0] :: H)) hl_760 ⟨_, rfl, _, (GLe.refl _), f.weak ⟨rfl, rfl, rfl, rfl, trivial⟩, m⟩ ?_
      clear hl_760 f m
      rintro s_763 o_764 hs_761 hq_762 a w ⟨x_766, rfl, G_765, hl_767, f, m⟩
      have h0_0 := RSl.mono (RSl.mono (RI.mono _)) _ _ _ _ hl_767 h0_0
      refine k_seq ?_
      refine k_seq ?_
      refine k_region ?_
      refine l_op f rfl rfl rfl (r_move (f.eval rfl)) (fun a f => ?_)
      refine l_fieldAddr Tryd.underlying29 rfl Tryd.sizeOf27 (by decide) f rfl rfl (fun a f => ?_)
      refine l_boxCell 0 0 m Pl27 f rfl rfl rfl rfl (fun a f => ?_)
      refine l_op f rfl rfl rfl (r_move (f.eval rfl)) (fun a f => ?_)
      obtain ⟨e_801, he_802, hs_761⟩ := bind_some hs_761
      refine l_at T27 f rfl rfl rfl h0_0 he_802 (fun p_803 c_804 a g_805 h_806 f => ?_)
      refine l_loadAt m Pl31 f rfl rfl g_805 (fun a f => ?_)
      refine l_len Tryd.underlying31 f rfl rfl h_806 (fun a f => ?_)
      refine l_op f rfl rfl rfl (r_int (f.eval rfl) (f.eval rfl) b_lss) (fun a f => ?_)
      refine l_nil ?_
      rcases cond_some hs_761 with ⟨hc_807, hs_761⟩ | ⟨hc_807, hs_761⟩
      ·refine k_true f rfl hc_807 ?_
       refine k_skip ?_
       refine k_seq ?_
       refine k_block ?_
       refine k_seq ?_
       refine k_draw 15 Follows (by kernel_rfl) m ?_
       refine q_fieldAddr (i := 0) (listed' := #[true, false, false, false, false, false, false, false, false, false, false, false, false, false, false]) 15 Tryd.underlying29 rfl Tryd.sizeOf27 (by decide) rfl (by kernel_rfl) rfl f rfl rfl rfl (fun a f => ?_)
       refine q_boxCell (i := 1) (listed' := #[true, true, false, false, false, false, false, false, false, false, false, false, false, false, false]) 15 0 Pl27 rfl rfl rfl (by kernel_rfl) rfl f rfl rfl rfl (fun a f => ?_)
       refine q_fieldAddr (i := 2) (listed' := #[true, true, true, false, false, false, false, false, false, false, false, false, false, false, false]) 15 Tryd.underlying29 rfl Tryd.sizeOf27 (by decide) rfl (by kernel_rfl) rfl f rfl rfl rfl (fun a f => ?_)
       refine q_boxCell (i := 3) (listed' := #[true, true, true, true, false, false, false, false, false, false, false, false, false, false, false]) 15 0 Pl27 rfl rfl rfl (by kernel_rfl) rfl f rfl rfl rfl (fun a f => ?_)
       refine q_op (i := 4) (listed' := #[true, true, true, true, true, false, false, false, false, false, false, false, false, false, false]) 15 rfl (by kernel_rfl) rfl f rfl rfl rfl (fun _ _ _ _ _ => r_move (f.eval rfl)) (fun a f => ?_)
       obtain ⟨e_808, he_809, hs_761⟩ := bind_some hs_761
       refine q_at (i := 5) (listed' := #[true, true, true, true, true, true, false, false, false, false, false, false, false, false, false]) 15 T27 h0_0 he_809 rfl (by kernel_rfl) rfl f rfl rfl rfl rfl (fun p_810 c_811 a g_812 h_813 f => ?_)
       refine q_loadAt (i := 6) (listed' := #[true, true, true, true, true, true, true, false, false, false, false, false, false, false, false]) 15 Pl31 g_812 rfl (by kernel_rfl) rfl f rfl rfl rfl (fun a f => ?_)
       refine q_op (i := 7) (listed' := #[true, true, true, true, true, true, true, true, false, false, false, false, false, false, false]) 15 rfl (by kernel_rfl) rfl f rfl rfl rfl (fun _ _ _ _ _ => r_move (f.eval rfl)) (fun a f => ?_)
       obtain ⟨e_814, he_815, hs_761⟩ := bind_some hs_761
       refine q_at (i := 8) (listed' := #[true, true, true, true, true, true, true, true, true, false, false, false, false, false, false]) 15 T31 h_813 he_815 rfl (by kernel_rfl) rfl f rfl rfl rfl rfl (fun p_816 c_817 a g_818 h_819 f => ?_)
       subst h_819
       refine q_loadAt (i := 9) (listed' := #[true, true, true, true, true, true, true, true, true, true, false, false, false, false, false]) 15 Pl2 g_818 rfl (by kernel_rfl) rfl f rfl rfl rfl (fun a f => ?_)
       obtain ⟨e_820, he_821, hs_761⟩ := bind_some hs_761
       refine q_at (i := 10) (listed' := #[true, true, true, true, true, true, true, true, true, true, true, false, false, false, false]) 15 T27 h0_0 he_821 rfl (by kernel_rfl) rfl f rfl rfl rfl rfl (fun p_822 c_823 a g_824 h_825 f => ?_)
       refine q_loadAt (i := 11) (listed' := #[true, true, true, true, true, true, true, true, true, true, true, true, false, false, false]) 15 Pl31 g_824 rfl (by kernel_rfl) rfl f rfl rfl rfl (fun a f => ?_)
       refine q_op (i := 12) (listed' := #[true, true, true, true, true, true, true, true, true, true, true, true, true, false, false]) 15 rfl (by kernel_rfl) rfl f rfl rfl rfl (fun _ _ _ _ _ => r_move (f.eval rfl)) (fun a f => ?_)
       obtain ⟨y_826, hy_827, hs_761⟩ := bind_some hs_761
       refine q_call (i := 13) (listed' := #[true, true, true, true, true, true, true, true, true, true, true, true, true, true, false]) 15 rfl (by kernel_rfl) rfl f rfl rfl rfl Tryd.call68 (fun _ _ w hG_828 m => Wk.spec_l1Has m (RSl.mono (RI.mono _) _ _ _ _ hG_828 h_825) hy_827) (fun a f => ?_)
       refine q_op (i := 14) (listed' := #[true, true, true, true, true, true, true, true, true, true, true, true, true, true, true]) 15 rfl (by kernel_rfl) rfl f rfl rfl rfl (fun _ _ _ _ _ => r_not (f.eval rfl)) (fun a f => ?_)
       refine q_end (fun G_829 w hl_830 m => ?_)
       have h0_0 := RSl.mono (RSl.mono (RI.mono _)) _ _ _ _ hl_830 h0_0
       have g_812 := At.mono hl_830 g_812
       have h_813 := RSl.mono (RI.mono _) _ _ _ _ hl_830 h_813
       have g_818 := At.mono hl_830 g_818
       have g_824 := At.mono hl_830 g_824
       have h_825 := RSl.mono (RI.mono _) _ _ _ _ hl_830 h_825
       have m : Mem W G_829 w (Itm.box b_2 29 [v0_0] :: H) := m
       refine l_nil ?_
       rcases cond_some hs_761 with ⟨hc_831, hs_761⟩ | ⟨hc_831, hs_761⟩
       ·refine k_true f rfl hc_831 ?_
        refine k_seq ?_
        refine k_region ?_
        refine l_op f rfl rfl rfl (r_assign (f.eval rfl)) (fun a f => ?_)
        refine l_nil ?_
        refine k_ret ?_
        have m : Mem W G_829 w H := Mem.drop (H' := [Itm.box b_2 29 [v0_0]]) m
        obtain rfl := Option.some.inj hs_761
        obtain rfl := hq_762 _ rfl
        obtain rfl := Option.some.inj hs_547
        obtain rfl := hq_548 _ rfl
        obtain rfl := Option.some.inj hd
        exact ⟨[(.bool false)], ⟨f.get _ _ rfl, trivial⟩, f.defers, _, [], (GLe.trans hl_6 (GLe.trans hl_13 (GLe.trans hl_207 (GLe.trans hl_553 (GLe.trans hl_767 hl_830))))), m, rfl, rfl⟩
       ·refine k_false f rfl hc_831 ?_
        refine k_skip ?_
        refine k_region ?_
        refine l_op f rfl rfl rfl (r_move (f.eval rfl)) (fun a f => ?_)
        refine l_op f rfl rfl rfl (r_int (f.eval rfl) (f.eval rfl) b_add) (fun a f => ?_)
        refine l_op f rfl rfl rfl (r_assign (f.eval rfl)) (fun a f => ?_)
        refine l_nil ?_
        obtain rfl := Option.some.inj hs_761
        exact ⟨_, rfl, _, rfl, _, (GLe.trans hl_767 hl_830), f.weak ⟨rfl, rfl, rfl, rfl, trivial⟩, m⟩
      ·refine k_false f rfl hc_807 ?_
       refine k_exit rfl ?_
       obtain rfl := Option.some.inj hs_761
       obtain rfl := hq_762 _ rfl
       exact ⟨_, rfl, _, hl_767, f.weak ⟨rfl, rfl, rfl, trivial⟩, m⟩
     ·rintro a w ⟨_, rfl, G_799, hl_800, f, m⟩
      have h0_0 := RSl.mono (RSl.mono (RI.mono _)) _ _ _ _ hl_800 h0_0
      refine k_region ?_
      refine l_op f rfl rfl rfl (r_move (f.eval rfl)) (fun a f => ?_)
      refine l_op f rfl rfl rfl (r_int (f.eval rfl) (f.eval rfl) b_add) (fun a f => ?_)
      refine l_op f rfl rfl rfl (r_assign (f.eval rfl)) (fun a f => ?_)
      refine l_nil ?_
      obtain rfl := Option.some.inj hs_547
      exact ⟨_, rfl, _, rfl, _, (GLe.trans hl_553 hl_800), f.weak ⟨rfl, rfl, rfl, trivial⟩, m⟩
    ·refine k_false f rfl hc_694 ?_
     refine k_exit rfl ?_
     have m : Mem W G_551 w H := Mem.drop (H' := [Itm.box b_2 29 [v0_0]]) m
     obtain rfl := Option.some.inj hs_547
     obtain rfl := hq_548 _ rfl
     exact ⟨_, rfl, _, hl_553, f.weak trivial, m⟩
   ·rintro a w ⟨_, rfl, G_692, hl_693, f, m⟩
    refine k_seq ?_
    refine k_region ?_
    refine l_op f rfl rfl rfl (r_assign (f.eval rfl)) (fun a f => ?_)
    refine l_nil ?_
    refine k_ret ?_
    obtain rfl := Option.some.inj hd
    exact ⟨[(.bool true)], ⟨f.get _ _ rfl, trivial⟩, f.defers, _, [], (GLe.trans hl_6 (GLe.trans hl_13 (GLe.trans hl_207 hl_693))), m, rfl, rfl⟩

theorem Wk.spec_l1There {W w : World} {G : GH} {H : List Itm} {v0_0 : Value} {x0_0 : (List (List Int))} {x1 : Int} (m : Mem W G w (H)) (h0_0 : RSl (RSl (RI .i64)) G v0_0 x0_0) {y : Bool} (hd : D.spec_l1There x0_0 x1 = some y) :
  Calls Tryd.prog 105 #[(.agg #[v0_0]), (.int .i64 x1)] w (Res W G H (fun _ Ho v => Ho = [] ∧ v = (.bool y))) := by
 refine calls_b (args := [(.agg #[v0_0]), (.int .i64 x1)]) (N := 10) [.tmp 4] Tryd.func105 rfl rfl (Nat.le_of_ble_eq_true rfl) rfl (fun a f => ?_)
 unfold D.spec_l1There at hd
 refine k_seq ?_
 refine k_region ?_
 refine l_box (cs := [v0_0]) m f rfl rfl rfl (fun b_2 w a m f => ?_)
 refine l_op f rfl rfl rfl (r_assign (f.eval rfl)) (fun a f => ?_)
 refine l_nil ?_
 refine k_seq ?_
 refine k_region ?_
 refine l_op f rfl rfl rfl (r_move (f.eval rfl)) (fun a f => ?_)
 refine l_boxAgg 0 0 (ds := [v0_0]) m Ag29 f rfl rfl rfl rfl rfl (fun a f => ?_)
 obtain ⟨y_3, hy_4, hd⟩ := bind_some hd
 refine l_res f rfl rfl Tryd.call89 (Wk.spec_l1Size m h0_0 hy_4) (fun v_8 G_5 Ho_9 w hl_6 m hQ_7 a f => ?_)
 obtain ⟨rfl, rfl⟩ := hQ_7
 have h0_0 := RSl.mono (RSl.mono (RI.mono _)) _ _ _ _ hl_6 h0_0
 have m : Mem W G_5 w (Itm.box b_2 29 [v0_0] :: H) := m
 refine l_op f rfl rfl rfl (r_int (f.eval rfl) (f.eval rfl) b_sub) (fun a f => ?_)
 obtain ⟨y_10, hy_11, hd⟩ := bind_some hd
 refine l_res f rfl rfl Tryd.call67 (Wk.spec_l1In m  hy_11) (fun v_15 G_12 Ho_16 w hl_13 m hQ_14 a f => ?_)
 obtain ⟨rfl, rfl⟩ := hQ_14
 have h0_0 := RSl.mono (RSl.mono (RI.mono _)) _ _ _ _ hl_13 h0_0
 have m : Mem W G_12 w (Itm.box b_2 29 [v0_0] :: H) := m
 refine l_op f rfl rfl rfl (r_assign (f.eval rfl)) (fun a f => ?_)
 refine l_nil ?_
 refine k_ret ?_
 have m : Mem W G_12 w H := Mem.drop (H' := [Itm.box b_2 29 [v0_0]]) m
 obtain rfl := Option.some.inj hd
 exact ⟨[(.bool y_10)], ⟨f.get _ _ rfl, trivial⟩, f.defers, _, [], (GLe.trans hl_6 hl_13), m, rfl, rfl⟩

theorem Wk.spec_l1Order {W w : World} {G : GH} {H : List Itm} {v0_0 : Value} {v1 : Value} {x0_0 : (List (List Int))} {x1 : (List Int)} (m : Mem W G w (H)) (h0_0 : RSl (RSl (RI .i64)) G v0_0 x0_0) (h1 : RSl (RI .i64) G v1 x1) {y : Bool} (hd : D.spec_l1Order x0_0 x1 = some y) :
  Calls Tryd.prog 64 #[(.agg #[v0_0]), v1] w (Res W G H (fun _ Ho v => Ho = [] ∧ v = (.bool y))) := by
 refine calls_b (args := [(.agg #[v0_0]), v1]) (N := 34) [.tmp 4] Tryd.func64 rfl rfl (Nat.le_of_ble_eq_true rfl) rfl (fun a f => ?_)
 unfold D.spec_l1Order at hd
 refine k_seq ?_
 refine k_region ?_
 refine l_box (cs := [v0_0]) m f rfl rfl rfl (fun b_2 w a m f => ?_)
 refine l_op f rfl rfl rfl (r_assign (f.eval rfl)) (fun a f => ?_)
 refine l_nil ?_
 refine k_seq ?_
 refine k_seq ?_
 refine k_region ?_
 refine l_op f rfl rfl rfl (r_move (f.eval rfl)) (fun a f => ?_)
 refine l_len Tryd.underlying31 f rfl rfl h1 (fun a f => ?_)
 refine l_boxAgg 0 0 (ds := [v0_0]) m Ag29 f rfl rfl rfl rfl rfl (fun a f => ?_)
 obtain ⟨y_3, hy_4, hd⟩ := bind_some hd
 refine l_res f rfl rfl Tryd.call89 (Wk.spec_l1Size m h0_0 hy_4) (fun v_8 G_5 Ho_9 w hl_6 m hQ_7 a f => ?_)
 obtain ⟨rfl, rfl⟩ := hQ_7
 have h0_0 := RSl.mono (RSl.mono (RI.mono _)) _ _ _ _ hl_6 h0_0
 have h1 := RSl.mono (RI.mono _) _ _ _ _ hl_6 h1
 have m : Mem W G_5 w (Itm.box b_2 29 [v0_0] :: H) := m
 refine l_op f rfl rfl rfl (r_int (f.eval rfl) (f.eval rfl) b_neq) (fun a f => ?_)
 refine l_nil ?_
 rcases cond_some hd with ⟨hc_10, hd⟩ | ⟨hc_10, hd⟩
 ·refine k_true f rfl hc_10 ?_
  refine k_seq ?_
  refine k_region ?_
  refine l_op f rfl rfl rfl (r_assign (f.eval rfl)) (fun a f => ?_)
  refine l_nil ?_
  refine k_ret ?_
  have m : Mem W G_5 w H := Mem.drop (H' := [Itm.box b_2 29 [v0_0]]) m
  obtain rfl := Option.some.inj hd
  exact ⟨[(.bool false)], ⟨f.get _ _ rfl, trivial⟩, f.defers, _, [], hl_6, m, rfl, rfl⟩
 ·refine k_false f rfl hc_10 ?_
  refine k_skip ?_
  refine k_seq ?_
  refine k_seq ?_
  refine k_region ?_
  refine l_op f rfl rfl rfl (r_assign (f.eval rfl)) (fun a f => ?_)
  refine l_nil ?_
  obtain ⟨q_99, hl_100, hd⟩ := bind_some hd
  refine k_cut (fun a w => ∃ q_99' : Unit, q_99 = .inl q_99' ∧ ∃ (G_151 : GH), GLe G_5 G_151 ∧ Fr a 34 [] ∧ Mem W G_151 w (H)) ?_ ?_
  ·refine k_block ?_
   refine k_loop (fun s_103 a w => ∃ x_106 : Int, x_106 = s_103 ∧ ∃ (G_105 : GH), GLe G_5 G_105 ∧ Fr a 34 [(1, v1), (2, (.pointer (some ⟨b_2, 0, none⟩))), (5, (.int .i64 x_106))] ∧ Mem W G_105 w (Itm.box b_2 29 [v0_0] :: H)) hl_100 ⟨_, rfl, _, (GLe.refl _), f.weak ⟨rfl, rfl, rfl, trivial⟩, m⟩ ?_
   clear hl_100 f m
   rintro s_103 o_104 hs_101 hq_102 a w ⟨x_106, rfl, G_105, hl_107, f, m⟩
   have h1 := RSl.mono (RI.mono _) _ _ _ _ hl_107 h1
   have h0_0 := RSl.mono (RSl.mono (RI.mono _)) _ _ _ _ hl_107 h0_0
   refine k_seq ?_
   refine k_seq ?_
   refine k_region ?_
   refine l_op f rfl rfl rfl (r_move (f.eval rfl)) (fun a f => ?_)
   refine l_op f rfl rfl rfl (r_move (f.eval rfl)) (fun a f => ?_)
   refine l_len Tryd.underlying31 f rfl rfl h1 (fun a f => ?_)
   refine l_op f rfl rfl rfl (r_int (f.eval rfl) (f.eval rfl) b_lss) (fun a f => ?_)
   refine l_nil ?_
   rcases cond_some hs_101 with ⟨hc_153, hs_101⟩ | ⟨hc_153, hs_101⟩
   ·refine k_true f rfl hc_153 ?_
    refine k_skip ?_
    refine k_seq ?_
    refine k_block ?_
    refine k_seq ?_
    refine k_draw 17 Follows (by kernel_rfl) m ?_
    refine q_boxAgg (i := 0) (listed' := #[true, false, false, false, false, false, false, false, false, false, false, false, false, false, false, false, false]) (ds := [v0_0]) 17 0 Ag29 rfl rfl rfl rfl (by kernel_rfl) rfl f rfl rfl rfl (fun a f => ?_)
    refine q_op (i := 1) (listed' := #[true, true, false, false, false, false, false, false, false, false, false, false, false, false, false, false, false]) 17 rfl (by kernel_rfl) rfl f rfl rfl rfl (fun _ _ _ _ _ => r_move (f.eval rfl)) (fun a f => ?_)
    refine q_op (i := 2) (listed' := #[true, true, true, false, false, false, false, false, false, false, false, false, false, false, false, false, false]) 17 rfl (by kernel_rfl) rfl f rfl rfl rfl (fun _ _ _ _ _ => r_move (f.eval rfl)) (fun a f => ?_)
    obtain ⟨e_154, he_155, hs_101⟩ := bind_some hs_101
    refine q_at (i := 3) (listed' := #[true, true, true, true, false, false, false, false, false, false, false, false, false, false, false, false, false]) 17 T31 h1 he_155 rfl (by kernel_rfl) rfl f rfl rfl rfl rfl (fun p_156 c_157 a g_158 h_159 f => ?_)
    subst h_159
    refine q_loadAt (i := 4) (listed' := #[true, true, true, true, true, false, false, false, false, false, false, false, false, false, false, false, false]) 17 Pl2 g_158 rfl (by kernel_rfl) rfl f rfl rfl rfl (fun a f => ?_)
    obtain ⟨y_160, hy_161, hs_101⟩ := bind_some hs_101
    refine q_call (i := 5) (listed' := #[true, true, true, true, true, true, false, false, false, false, false, false, false, false, false, false, false]) 17 rfl (by kernel_rfl) rfl f rfl rfl rfl Tryd.call105 (fun _ _ w hG_162 m => Wk.spec_l1There m (RSl.mono (RSl.mono (RI.mono _)) _ _ _ _ hG_162 h0_0) hy_161) (fun a f => ?_)
    refine q_op (i := 6) (listed' := #[true, true, true, true, true, true, true, false, false, false, false, false, false, false, false, false, false]) 17 rfl (by kernel_rfl) rfl f rfl rfl rfl (fun _ _ _ _ _ => r_not (f.eval rfl)) (fun a f => ?_)
    refine q_op (i := 7) (listed' := #[true, true, true, true, true, true, true, true, false, false, false, false, false, false, false, false, false]) 17 rfl (by kernel_rfl) rfl f rfl rfl rfl (fun _ _ _ _ _ => r_move (f.eval rfl)) (fun a f => ?_)
    obtain ⟨b_178, hj_179, hs_101⟩ := bind_some hs_101
    refine q_cut (fuel' := 0) (listed' := #[true, true, true, true, true, true, true, true, true, true, true, true, true, true, true, true, true]) (fun a => Fr a 34 [(1, v1), (2, (.pointer (some ⟨b_2, 0, none⟩))), (5, (.int .i64 x_106)), (14, (.bool (decide (x_106 < (x1.length : Int))))), (17, (.agg #[v0_0])), (18, v1), (19, (.int .i64 x_106)), (20, p_156), (21, (.int .i64 e_154)), (22, (.bool y_160)), (23, (.bool (!y_160))), (24, (.bool (!y_160))), (33, (.bool b_178))]) ?_ ?_
    ·intro a f
     refine q_end (fun G_193 w hl_194 m => ?_)
     have h1 := RSl.mono (RI.mono _) _ _ _ _ hl_194 h1
     have h0_0 := RSl.mono (RSl.mono (RI.mono _)) _ _ _ _ hl_194 h0_0
     have g_158 := At.mono hl_194 g_158
     have m : Mem W G_193 w (Itm.box b_2 29 [v0_0] :: H) := m
     refine l_nil ?_
     rcases cond_some hs_101 with ⟨hc_195, hs_101⟩ | ⟨hc_195, hs_101⟩
     ·refine k_true f rfl hc_195 ?_
      refine k_seq ?_
      refine k_region ?_
      refine l_op f rfl rfl rfl (r_assign (f.eval rfl)) (fun a f => ?_)
      refine l_nil ?_
      refine k_ret ?_
      have m : Mem W G_193 w H := Mem.drop (H' := [Itm.box b_2 29 [v0_0]]) m
      obtain rfl := Option.some.inj hs_101
      obtain rfl := hq_102 _ rfl
      obtain rfl := Option.some.inj hd
      exact ⟨[(.bool false)], ⟨f.get _ _ rfl, trivial⟩, f.defers, _, [], (GLe.trans hl_6 (GLe.trans hl_107 hl_194)), m, rfl, rfl⟩
     ·refine k_false f rfl hc_195 ?_
      refine k_skip ?_
      refine k_region ?_
      refine l_op f rfl rfl rfl (r_move (f.eval rfl)) (fun a f => ?_)
      refine l_op f rfl rfl rfl (r_int (f.eval rfl) (f.eval rfl) b_add) (fun a f => ?_)
      refine l_op f rfl rfl rfl (r_assign (f.eval rfl)) (fun a f => ?_)
      refine l_nil ?_
      obtain rfl := Option.some.inj hs_101
      exact ⟨_, rfl, _, rfl, _, (GLe.trans hl_107 hl_194), f.weak ⟨rfl, rfl, rfl, trivial⟩, m⟩
    ·intro K_177
     rcases cond_some hj_179 with ⟨hc_163, hj_179⟩ | ⟨hc_163, hj_179⟩
     ·refine q_not (i := 8) (listed' := #[true, true, true, true, true, true, true, true, true, false, false, false, false, false, false, false, false]) 17 rfl (by kernel_rfl) rfl f rfl rfl rfl hc_163 rfl rfl (fun a f => ?_)
      refine q_not (i := 9) (listed' := #[true, true, true, true, true, true, true, true, true, true, false, false, false, false, false, false, false]) 17 rfl (by kernel_rfl) rfl f rfl rfl rfl hc_163 rfl rfl (fun a f => ?_)
      refine q_not (i := 10) (listed' := #[true, true, true, true, true, true, true, true, true, true, true, false, false, false, false, false, false]) 17 rfl (by kernel_rfl) rfl f rfl rfl rfl hc_163 rfl rfl (fun a f => ?_)
      refine q_not (i := 11) (listed' := #[true, true, true, true, true, true, true, true, true, true, true, true, false, false, false, false, false]) 17 rfl (by kernel_rfl) rfl f rfl rfl rfl hc_163 rfl rfl (fun a f => ?_)
      refine q_not (i := 12) (listed' := #[true, true, true, true, true, true, true, true, true, true, true, true, true, false, false, false, false]) 17 rfl (by kernel_rfl) rfl f rfl rfl rfl hc_163 rfl rfl (fun a f => ?_)
      refine q_not (i := 13) (listed' := #[true, true, true, true, true, true, true, true, true, true, true, true, true, true, false, false, false]) 17 rfl (by kernel_rfl) rfl f rfl rfl rfl hc_163 rfl rfl (fun a f => ?_)
      refine q_not (i := 14) (listed' := #[true, true, true, true, true, true, true, true, true, true, true, true, true, true, true, false, false]) 17 rfl (by kernel_rfl) rfl f rfl rfl rfl hc_163 rfl rfl (fun a f => ?_)
      refine q_not (i := 15) (listed' := #[true, true, true, true, true, true, true, true, true, true, true, true, true, true, true, true, false]) 17 rfl (by kernel_rfl) rfl f rfl rfl rfl hc_163 rfl rfl (fun a f => ?_)
      refine q_op (i := 16) (listed' := #[true, true, true, true, true, true, true, true, true, true, true, true, true, true, true, true, true]) 17 rfl (by kernel_rfl) rfl f rfl rfl rfl (fun _ _ _ _ _ => r_pickT (f.eval rfl) hc_163 (f.eval rfl)) (fun a f => ?_)
      obtain rfl := Option.some.inj hj_179
      exact K_177 _ (f.weak ⟨rfl, rfl, rfl, rfl, rfl, rfl, rfl, rfl, rfl, rfl, rfl, rfl, rfl, trivial⟩)
     ·refine q_op (i := 8) (listed' := #[true, true, true, true, true, true, true, true, true, false, false, false, false, false, false, false, false]) 17 rfl (by kernel_rfl) rfl f (wanted_of f rfl rfl rfl hc_163) rfl rfl (fun _ _ _ _ _ => r_move (f.eval rfl)) (fun a f => ?_)
      refine q_op (i := 9) (listed' := #[true, true, true, true, true, true, true, true, true, true, false, false, false, false, false, false, false]) 17 rfl (by kernel_rfl) rfl f (wanted_of f rfl rfl rfl hc_163) rfl rfl (fun _ _ _ _ _ => r_move (f.eval rfl)) (fun a f => ?_)
      obtain ⟨l_180, hx_181, hj_179⟩ := bind_some hj_179
      refine q_slice (i := 10) (listed' := #[true, true, true, true, true, true, true, true, true, true, true, false, false, false, false, false, false]) 17 T31 h1 hx_181 rfl (by kernel_rfl) rfl f (wanted_of f rfl rfl rfl hc_163) rfl rfl (.inl ⟨rfl, rfl⟩) (.inr ⟨_, _, rfl, rfl⟩) (fun v_182 a h_183 f => ?_)
      refine q_op (i := 11) (listed' := #[true, true, true, true, true, true, true, true, true, true, true, true, false, false, false, false, false]) 17 rfl (by kernel_rfl) rfl f (wanted_of f rfl rfl rfl hc_163) rfl rfl (fun _ _ _ _ _ => r_move (f.eval rfl)) (fun a f => ?_)
      refine q_op (i := 12) (listed' := #[true, true, true, true, true, true, true, true, true, true, true, true, true, false, false, false, false]) 17 rfl (by kernel_rfl) rfl f (wanted_of f rfl rfl rfl hc_163) rfl rfl (fun _ _ _ _ _ => r_move (f.eval rfl)) (fun a f => ?_)
      obtain ⟨e_184, he_185, hj_179⟩ := bind_some hj_179
      refine q_at (i := 13) (listed' := #[true, true, true, true, true, true, true, true, true, true, true, true, true, true, false, false, false]) 17 T31 h1 he_185 rfl (by kernel_rfl) rfl f (wanted_of f rfl rfl rfl hc_163) rfl rfl rfl (fun p_186 c_187 a g_188 h_189 f => ?_)
      subst h_189
      refine q_loadAt (i := 14) (listed' := #[true, true, true, true, true, true, true, true, true, true, true, true, true, true, true, false, false]) 17 Pl2 g_188 rfl (by kernel_rfl) rfl f (wanted_of f rfl rfl rfl hc_163) rfl rfl (fun a f => ?_)
      obtain ⟨y_190, hy_191, hj_179⟩ := bind_some hj_179
      refine q_call (i := 15) (listed' := #[true, true, true, true, true, true, true, true, true, true, true, true, true, true, true, true, false]) 17 rfl (by kernel_rfl) rfl f (wanted_of f rfl rfl rfl hc_163) rfl rfl Tryd.call68 (fun _ _ w hG_192 m => Wk.spec_l1Has m (RSl.mono (RI.mono _) _ _ _ _ hG_192 h_183) hy_191) (fun a f => ?_)
      refine q_op (i := 16) (listed' := #[true, true, true, true, true, true, true, true, true, true, true, true, true, true, true, true, true]) 17 rfl (by kernel_rfl) rfl f rfl rfl rfl (fun _ _ _ _ _ => r_pickF (f.eval rfl) hc_163 (f.eval rfl)) (fun a f => ?_)
      obtain rfl := Option.some.inj hj_179
      exact K_177 _ (f.weak ⟨rfl, rfl, rfl, rfl, rfl, rfl, rfl, rfl, rfl, rfl, rfl, rfl, rfl, trivial⟩)
   ·refine k_false f rfl hc_153 ?_
    refine k_exit rfl ?_
    have m : Mem W G_105 w H := Mem.drop (H' := [Itm.box b_2 29 [v0_0]]) m
    obtain rfl := Option.some.inj hs_101
    obtain rfl := hq_102 _ rfl
    exact ⟨_, rfl, _, hl_107, f.weak trivial, m⟩
  ·rintro a w ⟨_, rfl, G_151, hl_152, f, m⟩
   refine k_seq ?_
   refine k_region ?_
   refine l_op f rfl rfl rfl (r_assign (f.eval rfl)) (fun a f => ?_)
   refine l_nil ?_
   refine k_ret ?_
   obtain rfl := Option.some.inj hd
   exact ⟨[(.bool true)], ⟨f.get _ _ rfl, trivial⟩, f.defers, _, [], (GLe.trans hl_6 hl_152), m, rfl, rfl⟩

theorem Wk.spec_OrderOk {W w : World} {G : GH} {H : List Itm} {v0_0 : Value} {v1 : Value} {x0_0 : (List (List Int))} {x1 : (List Int)} (m : Mem W G w (H)) (h0_0 : RSl (RSl (RI .i64)) G v0_0 x0_0) (h1 : RSl (RI .i64) G v1 x1) {y : Bool} (hd : D.spec_OrderOk x0_0 x1 = some y) :
  Calls Tryd.prog 16 #[(.agg #[v0_0]), v1] w (Res W G H (fun _ Ho v => Ho = [] ∧ v = (.bool y))) := by
 refine calls_b (args := [(.agg #[v0_0]), v1]) (N := 12) [.tmp 4] Tryd.func16 rfl rfl (Nat.le_of_ble_eq_true rfl) rfl (fun a f => ?_)
 unfold D.spec_OrderOk at hd
 refine k_seq ?_
 refine k_region ?_
 refine l_box (cs := [v0_0]) m f rfl rfl rfl (fun b_2 w a m f => ?_)
 refine l_op f rfl rfl rfl (r_assign (f.eval rfl)) (fun a f => ?_)
 refine l_nil ?_
 refine k_seq ?_
 refine k_region ?_
 refine l_boxAgg 0 0 (ds := [v0_0]) m Ag29 f rfl rfl rfl rfl rfl (fun a f => ?_)
 obtain ⟨y_3, hy_4, hd⟩ := bind_some hd
 refine l_res f rfl rfl Tryd.call51 (Wk.spec_GraphOk m h0_0 hy_4) (fun v_8 G_5 Ho_9 w hl_6 m hQ_7 a f => ?_)
 obtain ⟨rfl, rfl⟩ := hQ_7
 have h0_0 := RSl.mono (RSl.mono (RI.mono _)) _ _ _ _ hl_6 h0_0
 have h1 := RSl.mono (RI.mono _) _ _ _ _ hl_6 h1
 have m : Mem W G_5 w (Itm.box b_2 29 [v0_0] :: H) := m
 refine l_op f rfl rfl rfl (r_move (f.eval rfl)) (fun a f => ?_)
 obtain ⟨b_27, hj_28, hd⟩ := bind_some hd
 refine l_cut 4 (fun a w => ∃ G_25, GLe G_5 G_25 ∧ Mem W G_25 w (Itm.box b_2 29 [v0_0] :: H) ∧ Fr a 12 [(0, (.agg #[v0_0])), (1, v1), (2, (.pointer (some ⟨b_2, 0, none⟩))), (5, (.agg #[v0_0])), (6, (.bool y_3)), (7, (.bool y_3)), (11, (.bool b_27))]) ?_ ?_
 ·rcases cond_some hj_28 with ⟨hc_10, hj_28⟩ | ⟨hc_10, hj_28⟩
  ·refine l_run f rfl rfl hc_10 ?_
   refine l_boxAgg 0 0 (ds := [v0_0]) m Ag29 f rfl rfl rfl rfl rfl (fun a f => ?_)
   refine l_run f rfl rfl hc_10 ?_
   refine l_op f rfl rfl rfl (r_move (f.eval rfl)) (fun a f => ?_)
   refine l_run f rfl rfl hc_10 ?_
   obtain ⟨y_29, hy_30, hj_28⟩ := bind_some hj_28
   refine l_res f rfl rfl Tryd.call64 (Wk.spec_l1Order m h0_0 h1 hy_30) (fun v_34 G_31 Ho_35 w hl_32 m hQ_33 a f => ?_)
   obtain ⟨rfl, rfl⟩ := hQ_33
   have h0_0 := RSl.mono (RSl.mono (RI.mono _)) _ _ _ _ hl_32 h0_0
   have h1 := RSl.mono (RI.mono _) _ _ _ _ hl_32 h1
   have m : Mem W G_31 w (Itm.box b_2 29 [v0_0] :: H) := m
   refine l_op f rfl rfl rfl (r_pickT (f.eval rfl) hc_10 (f.eval rfl)) (fun a f => ?_)
   obtain rfl := Option.some.inj hj_28
   exact ⟨_, hl_32, m, f.weak ⟨rfl, rfl, rfl, rfl, rfl, rfl, rfl, trivial⟩⟩
  ·refine l_not' f rfl rfl rfl hc_10 (fun a f => ?_)
   refine l_not' f rfl rfl rfl hc_10 (fun a f => ?_)
   refine l_not' f rfl rfl rfl hc_10 (fun a f => ?_)
   refine l_op f rfl rfl rfl (r_pickF (f.eval rfl) hc_10 (f.eval rfl)) (fun a f => ?_)
   obtain rfl := Option.some.inj hj_28
   exact ⟨_, (GLe.refl _), m, f.weak ⟨rfl, rfl, rfl, rfl, rfl, rfl, rfl, trivial⟩⟩
 ·rintro a w ⟨G_25, hl_26, m, f⟩
  have h0_0 := RSl.mono (RSl.mono (RI.mono _)) _ _ _ _ hl_26 h0_0
  have h1 := RSl.mono (RI.mono _) _ _ _ _ hl_26 h1
  refine l_op f rfl rfl rfl (r_assign (f.eval rfl)) (fun a f => ?_)
  refine l_nil ?_
  refine k_ret ?_
  have m : Mem W G_25 w H := Mem.drop (H' := [Itm.box b_2 29 [v0_0]]) m
  obtain rfl := Option.some.inj hd
  exact ⟨[(.bool b_27)], ⟨f.get _ _ rfl, trivial⟩, f.defers, _, [], (GLe.trans hl_6 hl_26), m, rfl, rfl⟩

theorem Wk.spec_l1Into {W w : World} {G : GH} {H : List Itm} {v0 : Value} {x0 : (List Int)} {x1 : Int} (m : Mem W G w (H)) (h0 : RSl (RI .i64) G v0 x0) {y : ((List Int))} (hd : D.spec_l1Into x0 x1 = some y) :
  Calls Tryd.prog 70 #[v0, (.int .i64 x1)] w (Res W G H (fun G' Ho v => ∃ r0 : Value, Ho = [] ∧ r0 = v ∧ RSl (RI .i64) G' r0 y)) := by
 refine calls_b (args := [v0, (.int .i64 x1)]) (N := 46) [.tmp 4] Tryd.func70 rfl rfl (Nat.le_of_ble_eq_true rfl) rfl (fun a f => ?_)
 unfold D.spec_l1Into at hd
 refine k_seq ?_
 refine k_region ?_
 refine l_op f rfl rfl rfl (r_assign (f.eval rfl)) (fun a f => ?_)
 refine l_nil ?_
 refine k_seq ?_
 refine k_region ?_
 refine l_op f rfl rfl rfl (r_assign (f.eval rfl)) (fun a f => ?_)
 refine l_nil ?_
 refine k_seq ?_
 obtain ⟨q_51, hl_52, hd⟩ := bind_some hd
 refine k_cut (fun a w => ∃ x_85 : Int, x_85 = q_51 ∧ ∃ (G_84 : GH), GLe G G_84 ∧ Fr a 46 [(0, v0), (1, (.int .i64 x1)), (5, (.int .i64 x_85))] ∧ Mem W G_84 w (H)) ?_ ?_
 ·refine k_block ?_
  refine k_loop (fun s_55 a w => ∃ x_58 : Int, x_58 = s_55 ∧ ∃ (G_57 : GH), GLe G G_57 ∧ Fr a 46 [(0, v0), (1, (.int .i64 x1)), (5, (.int .i64 x_58))] ∧ Mem W G_57 w (H)) hl_52 ⟨_, rfl, _, (GLe.refl _), f.weak ⟨rfl, rfl, rfl, trivial⟩, m⟩ ?_
  clear hl_52 f m
  rintro s_55 o_56 hs_53 hq_54 a w ⟨x_58, rfl, G_57, hl_59, f, m⟩
  have h0 := RSl.mono (RI.mono _) _ _ _ _ hl_59 h0
  refine k_seq ?_
  refine k_seq ?_
  refine k_region ?_
  refine l_op f rfl rfl rfl (r_move (f.eval rfl)) (fun a f => ?_)
  refine l_op f rfl rfl rfl (r_move (f.eval rfl)) (fun a f => ?_)
  refine l_len Tryd.underlying31 f rfl rfl h0 (fun a f => ?_)
  refine l_op f rfl rfl rfl (r_int (f.eval rfl) (f.eval rfl) b_lss) (fun a f => ?_)
  refine l_op f rfl rfl rfl (r_move (f.eval rfl)) (fun a f => ?_)
  obtain ⟨b_102, hj_103, hs_53⟩ := bind_some hs_53
  refine l_cut 7 (fun a w => ∃ G_100, GLe G_57 G_100 ∧ Mem W G_100 w (H) ∧ Fr a 46 [(0, v0), (1, (.int .i64 x1)), (5, (.int .i64 x_58)), (7, (.int .i64 x_58)), (8, v0), (9, (.int .i64 (x0.length : Int))), (10, (.bool (decide (x_58 < (x0.length : Int))))), (11, (.bool (decide (x_58 < (x0.length : Int))))), (18, (.bool b_102))]) ?_ ?_
  ·rcases cond_some hj_103 with ⟨hc_87, hj_103⟩ | ⟨hc_87, hj_103⟩
   ·refine l_run f rfl rfl hc_87 ?_
    refine l_op f rfl rfl rfl (r_move (f.eval rfl)) (fun a f => ?_)
    refine l_run f rfl rfl hc_87 ?_
    refine l_op f rfl rfl rfl (r_move (f.eval rfl)) (fun a f => ?_)
    refine l_run f rfl rfl hc_87 ?_
    obtain ⟨e_104, he_105, hj_103⟩ := bind_some hj_103
    refine l_at T31 f rfl rfl rfl h0 he_105 (fun p_106 c_107 a g_108 h_109 f => ?_)
    subst h_109
    refine l_run f rfl rfl hc_87 ?_
    refine l_loadAt m Pl2 f rfl rfl g_108 (fun a f => ?_)
    refine l_run f rfl rfl hc_87 ?_
    refine l_op f rfl rfl rfl (r_move (f.eval rfl)) (fun a f => ?_)
    refine l_run f rfl rfl hc_87 ?_
    refine l_op f rfl rfl rfl (r_int (f.eval rfl) (f.eval rfl) b_lss) (fun a f => ?_)
    refine l_op f rfl rfl rfl (r_pickT (f.eval rfl) hc_87 (f.eval rfl)) (fun a f => ?_)
    obtain rfl := Option.some.inj hj_103
    exact ⟨_, (GLe.refl _), m, f.weak ⟨rfl, rfl, rfl, rfl, rfl, rfl, rfl, rfl, rfl, trivial⟩⟩
   ·refine l_not' f rfl rfl rfl hc_87 (fun a f => ?_)
    refine l_not' f rfl rfl rfl hc_87 (fun a f => ?_)
    refine l_not' f rfl rfl rfl hc_87 (fun a f => ?_)
    refine l_not' f rfl rfl rfl hc_87 (fun a f => ?_)
    refine l_not' f rfl rfl rfl hc_87 (fun a f => ?_)
    refine l_not' f rfl rfl rfl hc_87 (fun a f => ?_)
    refine l_op f rfl rfl rfl (r_pickF (f.eval rfl) hc_87 (f.eval rfl)) (fun a f => ?_)
    obtain rfl := Option.some.inj hj_103
    exact ⟨_, (GLe.refl _), m, f.weak ⟨rfl, rfl, rfl, rfl, rfl, rfl, rfl, rfl, rfl, trivial⟩⟩
  ·rintro a w ⟨G_100, hl_101, m, f⟩
   have h0 := RSl.mono (RI.mono _) _ _ _ _ hl_101 h0
   refine l_nil ?_
   rcases cond_some hs_53 with ⟨hc_110, hs_53⟩ | ⟨hc_110, hs_53⟩
   ·refine k_true f rfl hc_110 ?_
    refine k_skip ?_
    refine k_block ?_
    refine k_region ?_
    refine l_op f rfl rfl rfl (r_move (f.eval rfl)) (fun a f => ?_)
    refine l_op f rfl rfl rfl (r_int (f.eval rfl) (f.eval rfl) b_add) (fun a f => ?_)
    refine l_op f rfl rfl rfl (r_assign (f.eval rfl)) (fun a f => ?_)
    refine l_nil ?_
    obtain rfl := Option.some.inj hs_53
    exact ⟨_, rfl, _, rfl, _, (GLe.trans hl_59 hl_101), f.weak ⟨rfl, rfl, rfl, trivial⟩, m⟩
   ·refine k_false f rfl hc_110 ?_
    refine k_exit rfl ?_
    obtain rfl := Option.some.inj hs_53
    obtain rfl := hq_54 _ rfl
    exact ⟨_, rfl, _, (GLe.trans hl_59 hl_101), f.weak ⟨rfl, rfl, rfl, trivial⟩, m⟩
 ·rintro a w ⟨x_85, rfl, G_84, hl_86, f, m⟩
  have h0 := RSl.mono (RI.mono _) _ _ _ _ hl_86 h0
  refine k_seq ?_
  refine k_seq ?_
  refine k_region ?_
  refine l_op f rfl rfl rfl (r_move (f.eval rfl)) (fun a f => ?_)
  refine l_op f rfl rfl rfl (r_move (f.eval rfl)) (fun a f => ?_)
  refine l_len Tryd.underlying31 f rfl rfl h0 (fun a f => ?_)
  refine l_op f rfl rfl rfl (r_int (f.eval rfl) (f.eval rfl) b_lss) (fun a f => ?_)
  refine l_op f rfl rfl rfl (r_move (f.eval rfl)) (fun a f => ?_)
  obtain ⟨b_126, hj_127, hd⟩ := bind_some hd
  refine l_cut 7 (fun a w => ∃ G_124, GLe G_84 G_124 ∧ Mem W G_124 w (H) ∧ Fr a 46 [(0, v0), (1, (.int .i64 x1)), (5, (.int .i64 x_85)), (21, (.int .i64 x_85)), (22, v0), (23, (.int .i64 (x0.length : Int))), (24, (.bool (decide (x_85 < (x0.length : Int))))), (25, (.bool (decide (x_85 < (x0.length : Int))))), (32, (.bool b_126))]) ?_ ?_
  ·rcases cond_some hj_127 with ⟨hc_111, hj_127⟩ | ⟨hc_111, hj_127⟩
   ·refine l_run f rfl rfl hc_111 ?_
    refine l_op f rfl rfl rfl (r_move (f.eval rfl)) (fun a f => ?_)
    refine l_run f rfl rfl hc_111 ?_
    refine l_op f rfl rfl rfl (r_move (f.eval rfl)) (fun a f => ?_)
    refine l_run f rfl rfl hc_111 ?_
    obtain ⟨e_128, he_129, hj_127⟩ := bind_some hj_127
    refine l_at T31 f rfl rfl rfl h0 he_129 (fun p_130 c_131 a g_132 h_133 f => ?_)
    subst h_133
    refine l_run f rfl rfl hc_111 ?_
    refine l_loadAt m Pl2 f rfl rfl g_132 (fun a f => ?_)
    refine l_run f rfl rfl hc_111 ?_
    refine l_op f rfl rfl rfl (r_move (f.eval rfl)) (fun a f => ?_)
    refine l_run f rfl rfl hc_111 ?_
    refine l_op f rfl rfl rfl (r_int (f.eval rfl) (f.eval rfl) b_eql) (fun a f => ?_)
    refine l_op f rfl rfl rfl (r_pickT (f.eval rfl) hc_111 (f.eval rfl)) (fun a f => ?_)
    obtain rfl := Option.some.inj hj_127
    exact ⟨_, (GLe.refl _), m, f.weak ⟨rfl, rfl, rfl, rfl, rfl, rfl, rfl, rfl, rfl, trivial⟩⟩
   ·refine l_not' f rfl rfl rfl hc_111 (fun a f => ?_)
    refine l_not' f rfl rfl rfl hc_111 (fun a f => ?_)
    refine l_not' f rfl rfl rfl hc_111 (fun a f => ?_)
    refine l_not' f rfl rfl rfl hc_111 (fun a f => ?_)
    refine l_not' f rfl rfl rfl hc_111 (fun a f => ?_)
    refine l_not' f rfl rfl rfl hc_111 (fun a f => ?_)
    refine l_op f rfl rfl rfl (r_pickF (f.eval rfl) hc_111 (f.eval rfl)) (fun a f => ?_)
    obtain rfl := Option.some.inj hj_127
    exact ⟨_, (GLe.refl _), m, f.weak ⟨rfl, rfl, rfl, rfl, rfl, rfl, rfl, rfl, rfl, trivial⟩⟩
  ·rintro a w ⟨G_124, hl_125, m, f⟩
   have h0 := RSl.mono (RI.mono _) _ _ _ _ hl_125 h0
   refine l_nil ?_
   rcases cond_some hd with ⟨hc_134, hd⟩ | ⟨hc_134, hd⟩
   ·refine k_true f rfl hc_134 ?_
    refine k_seq ?_
    refine k_region ?_
    refine l_op f rfl rfl rfl (r_move (f.eval rfl)) (fun a f => ?_)
    refine l_op f rfl rfl rfl (r_assign (f.eval rfl)) (fun a f => ?_)
    refine l_nil ?_
    refine k_ret ?_
    obtain rfl := Option.some.inj hd
    exact ⟨[v0], ⟨f.get _ _ rfl, trivial⟩, f.defers, _, [], (GLe.trans hl_86 hl_125), m, _, rfl, rfl, h0⟩
   ·refine k_false f rfl hc_134 ?_
    refine k_skip ?_
    refine k_seq ?_
    refine k_region ?_
    refine l_op f rfl rfl rfl (r_move (f.eval rfl)) (fun a f => ?_)
    refine l_op f rfl rfl rfl (r_move (f.eval rfl)) (fun a f => ?_)
    obtain ⟨l_135, hx_136, hd⟩ := bind_some hd
    refine l_slice T31 f rfl rfl h0 (.inl ⟨rfl, rfl⟩) (.inr ⟨_, _, rfl, rfl⟩) hx_136 (fun v_137 a h_138 f => ?_)
    obtain ⟨y_139, hy_140, hd⟩ := bind_some hd
    refine l_res f rfl rfl Tryd.call106 (Wk.spec_l1Copy m h_138 hy_140) (fun v_144 G_141 Ho_145 w hl_142 m hQ_143 a f => ?_)
    obtain ⟨v_146, it_147, rfl, rfl, o_148⟩ := hQ_143
    have h0 := RSl.mono (RI.mono _) _ _ _ _ hl_142 h0
    have h_138 := RSl.mono (RI.mono _) _ _ _ _ hl_142 h_138
    have m : Mem W G_141 w (it_147 :: H) := m
    refine l_op f rfl rfl rfl (r_move (f.eval rfl)) (fun a f => ?_)
    refine l_slit (R := (RI .i64)) (xs := ([x1] : List Int)) (RI.one _) m T31 f rfl rfl rfl (by decide) (All2.cons rfl (All2.nil _)) (fun it_150 v_151 w a m o_152 f => ?_)
    obtain ⟨l_154, hx_155, hd⟩ := bind_some hd
    refine l_append (RI.one _) 1 m o_148 rfl T31 rfl (by decide) f rfl rfl rfl (Ow.src (j := 0) o_152 m rfl) hx_155 (fun it_156 v_157 w a m o_158 f => ?_)
    have m : Mem W G_141 w (it_150 :: it_156 :: H) := m
    refine l_op f rfl rfl rfl (r_assign (f.eval rfl)) (fun a f => ?_)
    refine l_nil ?_
    refine k_seq ?_
    refine k_region ?_
    refine l_op f rfl rfl rfl (r_move (f.eval rfl)) (fun a f => ?_)
    refine l_op f rfl rfl rfl (r_move (f.eval rfl)) (fun a f => ?_)
    refine l_op f rfl rfl rfl (r_move (f.eval rfl)) (fun a f => ?_)
    obtain ⟨l_160, hx_161, hd⟩ := bind_some hd
    refine l_slice T31 f rfl rfl h0 (.inr ⟨_, _, rfl, rfl⟩) (.inl ⟨rfl, rfl⟩) hx_161 (fun v_162 a h_163 f => ?_)
    obtain ⟨l_164, hx_165, hd⟩ := bind_some hd
    refine l_append (RI.one _) 1 m o_158 rfl T31 rfl (by decide) f rfl rfl rfl (h_163.src m) hx_165 (fun it_166 v_167 w a m o_168 f => ?_)
    have m : Mem W G_141 w (it_150 :: it_166 :: H) := m
    refine l_op f rfl rfl rfl (r_assign (f.eval rfl)) (fun a f => ?_)
    refine l_nil ?_
    refine k_ret ?_
    have m : Mem W G_141 w (it_166 :: it_150 :: H) := m.front 1 rfl
    obtain ⟨G_170, hl_171, m, h_172⟩ := Ow.stamp (RI.mono _) o_168 m
    have h0 := RSl.mono (RI.mono _) _ _ _ _ hl_171 h0
    have o_152 := Ow.mono (RI.mono _) hl_171 o_152
    have m : Mem W G_170 w (it_150 :: H) := m
    have m : Mem W G_170 w H := Mem.drop (H' := [it_150]) m
    obtain rfl := Option.some.inj hd
    exact ⟨[v_167], ⟨f.get _ _ rfl, trivial⟩, f.defers, _, [], (GLe.trans hl_86 (GLe.trans hl_125 (GLe.trans hl_142 hl_171))), m, _, rfl, rfl, h_172⟩

theorem Wk.spec_l12Open {W w : World} {G : GH} {H : List Itm} {v0_0 : Value} {v1 : Value} {x0_0 : (List (List Int))} {x1 : (List Int)} (m : Mem W G w (H)) (h0_0 : RSl (RSl (RI .i64)) G v0_0 x0_0) (h1 : RSl (RI .i64) G v1 x1) {y : ((List Int))} (hd : D.spec_l12Open x0_0 x1 = some y) :
  Calls Tryd.prog 66 #[(.agg #[v0_0]), v1] w (Res W G H (fun G' Ho v => ∃ r0 : Value, Ho = [] ∧ r0 = v ∧ RSl (RI .i64) G' r0 y)) := by
 refine calls_b (args := [(.agg #[v0_0]), v1]) (N := 49) [.tmp 4] Tryd.func66 rfl rfl (Nat.le_of_ble_eq_true rfl) rfl (fun a f => ?_)
 unfold D.spec_l12Open at hd
 refine k_seq ?_
 refine k_region ?_
 refine l_box (cs := [v0_0]) m f rfl rfl rfl (fun b_2 w a m f => ?_)
 refine l_op f rfl rfl rfl (r_assign (f.eval rfl)) (fun a f => ?_)
 refine l_nil ?_
 refine k_seq ?_
 refine k_region ?_
 refine l_slit (R := (RI .i64)) (xs := ([] : List Int)) (RI.one _) m T31 f rfl rfl rfl (by decide) (All2.nil _) (fun it_3 v_4 w a m o_5 f => ?_)
 refine l_op f rfl rfl rfl (r_assign (f.eval rfl)) (fun a f => ?_)
 refine l_nil ?_
 refine k_seq ?_
 refine k_seq ?_
 refine k_region ?_
 refine l_op f rfl rfl rfl (r_assign (f.eval rfl)) (fun a f => ?_)
 refine l_nil ?_
 obtain ⟨G_502, hl_503, m, h_504⟩ := Ow.stamp (RI.mono _) o_5 m
 have h0_0 := RSl.mono (RSl.mono (RI.mono _)) _ _ _ _ hl_503 h0_0
 have h1 := RSl.mono (RI.mono _) _ _ _ _ hl_503 h1
 have m : Mem W G_502 w (Itm.box b_2 29 [v0_0] :: H) := m
 obtain ⟨q_496, hl_497, hd⟩ := bind_some hd
 refine k_cut (fun a w => ∃ l_751 : List Int, l_751 = q_496 ∧ ∃ (G_750 : GH) (v_752 : Value), GLe G_502 G_750 ∧ Fr a 49 [(5, v_752)] ∧ Mem W G_750 w (H) ∧ RSl (RI .i64) G_750 v_752 l_751) ?_ ?_
 ·refine k_block ?_
  refine k_loop (fun s_500 a w => ∃ l_506 : List Int, ∃ x_509 : Int, (l_506, x_509) = s_500 ∧ ∃ (G_505 : GH) (v_507 : Value), GLe G_502 G_505 ∧ Fr a 49 [(1, v1), (2, (.pointer (some ⟨b_2, 0, none⟩))), (5, v_507), (6, (.int .i64 x_509))] ∧ Mem W G_505 w (Itm.box b_2 29 [v0_0] :: H) ∧ RSl (RI .i64) G_505 v_507 l_506) hl_497 ⟨_, _, rfl, _, v_4, (GLe.refl _), f.weak ⟨rfl, rfl, rfl, rfl, trivial⟩, m, h_504⟩ ?_
  clear hl_497 f m
  rintro s_500 o_501 hs_498 hq_499 a w ⟨l_506, x_509, rfl, G_505, v_507, hl_510, f, m, h_508⟩
  have h1 := RSl.mono (RI.mono _) _ _ _ _ hl_510 h1
  have h0_0 := RSl.mono (RSl.mono (RI.mono _)) _ _ _ _ hl_510 h0_0
  refine k_seq ?_
  refine k_seq ?_
  refine k_region ?_
  refine l_op f rfl rfl rfl (r_move (f.eval rfl)) (fun a f => ?_)
  refine l_op f rfl rfl rfl (r_move (f.eval rfl)) (fun a f => ?_)
  refine l_len Tryd.underlying31 f rfl rfl h1 (fun a f => ?_)
  refine l_op f rfl rfl rfl (r_int (f.eval rfl) (f.eval rfl) b_lss) (fun a f => ?_)
  refine l_nil ?_
  rcases cond_some hs_498 with ⟨hc_755, hs_498⟩ | ⟨hc_755, hs_498⟩
  ·refine k_true f rfl hc_755 ?_
   refine k_skip ?_
   refine k_seq ?_
   refine k_block ?_
   refine k_seq ?_
   refine k_region ?_
   refine l_op f rfl rfl rfl (r_assign (f.eval rfl)) (fun a f => ?_)
   refine l_nil ?_
   obtain ⟨q_869, hl_870, hs_498⟩ := bind_some hs_498
   refine k_cut (fun a w => ∃ l_936 : List Int, l_936 = q_869 ∧ ∃ (G_935 : GH) (v_937 : Value), GLe G_505 G_935 ∧ Fr a 49 [(1, v1), (2, (.pointer (some ⟨b_2, 0, none⟩))), (5, v_937), (6, (.int .i64 x_509))] ∧ Mem W G_935 w (Itm.box b_2 29 [v0_0] :: H) ∧ RSl (RI .i64) G_935 v_937 l_936) ?_ ?_
   ·refine k_block ?_
    refine k_loop (fun s_873 a w => ∃ l_876 : List Int, ∃ x_879 : Int, (l_876, x_879) = s_873 ∧ ∃ (G_875 : GH) (v_877 : Value), GLe G_505 G_875 ∧ Fr a 49 [(1, v1), (2, (.pointer (some ⟨b_2, 0, none⟩))), (5, v_877), (6, (.int .i64 x_509)), (7, (.int .i64 x_879))] ∧ Mem W G_875 w (Itm.box b_2 29 [v0_0] :: H) ∧ RSl (RI .i64) G_875 v_877 l_876) hl_870 ⟨_, _, rfl, _, v_507, (GLe.refl _), f.weak ⟨rfl, rfl, rfl, rfl, rfl, trivial⟩, m, h_508⟩ ?_
    clear hl_870 f m
    rintro s_873 o_874 hs_871 hq_872 a w ⟨l_876, x_879, rfl, G_875, v_877, hl_880, f, m, h_878⟩
    have h1 := RSl.mono (RI.mono _) _ _ _ _ hl_880 h1
    have h0_0 := RSl.mono (RSl.mono (RI.mono _)) _ _ _ _ hl_880 h0_0
    refine k_seq ?_
    refine k_seq ?_
    refine k_draw 11 Follows (by kernel_rfl) m ?_
    refine q_op (i := 0) (listed' := #[true, false, false, false, false, false, false, false, false, false, false]) 11 rfl (by kernel_rfl) rfl f rfl rfl rfl (fun _ _ _ _ _ => r_move (f.eval rfl)) (fun a f => ?_)
    refine q_fieldAddr (i := 1) (listed' := #[true, true, false, false, false, false, false, false, false, false, false]) 11 Tryd.underlying29 rfl Tryd.sizeOf27 (by decide) rfl (by kernel_rfl) rfl f rfl rfl rfl (fun a f => ?_)
    refine q_boxCell (i := 2) (listed' := #[true, true, true, false, false, false, false, false, false, false, false]) 11 0 Pl27 rfl rfl rfl (by kernel_rfl) rfl f rfl rfl rfl (fun a f => ?_)
    refine q_op (i := 3) (listed' := #[true, true, true, true, false, false, false, false, false, false, false]) 11 rfl (by kernel_rfl) rfl f rfl rfl rfl (fun _ _ _ _ _ => r_move (f.eval rfl)) (fun a f => ?_)
    refine q_op (i := 4) (listed' := #[true, true, true, true, true, false, false, false, false, false, false]) 11 rfl (by kernel_rfl) rfl f rfl rfl rfl (fun _ _ _ _ _ => r_move (f.eval rfl)) (fun a f => ?_)
    obtain ⟨e_940, he_941, hs_871⟩ := bind_some hs_871
    refine q_at (i := 5) (listed' := #[true, true, true, true, true, true, false, false, false, false, false]) 11 T31 h1 he_941 rfl (by kernel_rfl) rfl f rfl rfl rfl rfl (fun p_942 c_943 a g_944 h_945 f => ?_)
    subst h_945
    refine q_loadAt (i := 6) (listed' := #[true, true, true, true, true, true, true, false, false, false, false]) 11 Pl2 g_944 rfl (by kernel_rfl) rfl f rfl rfl rfl (fun a f => ?_)
    obtain ⟨e_946, he_947, hs_871⟩ := bind_some hs_871
    refine q_at (i := 7) (listed' := #[true, true, true, true, true, true, true, true, false, false, false]) 11 T27 h0_0 he_947 rfl (by kernel_rfl) rfl f rfl rfl rfl rfl (fun p_948 c_949 a g_950 h_951 f => ?_)
    refine q_loadAt (i := 8) (listed' := #[true, true, true, true, true, true, true, true, true, false, false]) 11 Pl31 g_950 rfl (by kernel_rfl) rfl f rfl rfl rfl (fun a f => ?_)
    refine q_len (i := 9) (listed' := #[true, true, true, true, true, true, true, true, true, true, false]) 11 Tryd.underlying31 h_951 rfl (by kernel_rfl) rfl f rfl rfl rfl (fun a f => ?_)
    refine q_op (i := 10) (listed' := #[true, true, true, true, true, true, true, true, true, true, true]) 11 rfl (by kernel_rfl) rfl f rfl rfl rfl (fun _ _ _ _ _ => r_int (f.eval rfl) (f.eval rfl) b_lss) (fun a f => ?_)
    refine q_end (fun G_952 w hl_953 m => ?_)
    have h1 := RSl.mono (RI.mono _) _ _ _ _ hl_953 h1
    have h_878 := RSl.mono (RI.mono _) _ _ _ _ hl_953 h_878
    have h0_0 := RSl.mono (RSl.mono (RI.mono _)) _ _ _ _ hl_953 h0_0
    have g_944 := At.mono hl_953 g_944
    have g_950 := At.mono hl_953 g_950
    have h_951 := RSl.mono (RI.mono _) _ _ _ _ hl_953 h_951
    have m : Mem W G_952 w (Itm.box b_2 29 [v0_0] :: H) := m
    refine l_nil ?_
    rcases cond_some hs_871 with ⟨hc_954, hs_871⟩ | ⟨hc_954, hs_871⟩
    ·refine k_true f rfl hc_954 ?_
     refine k_skip ?_
     refine k_seq ?_
     refine k_block ?_
     refine k_seq ?_
     refine k_draw 14 Follows (by kernel_rfl) m ?_
     refine q_op (i := 0) (listed' := #[true, false, false, false, false, false, false, false, false, false, false, false, false, false]) 14 rfl (by kernel_rfl) rfl f rfl rfl rfl (fun _ _ _ _ _ => r_move (f.eval rfl)) (fun a f => ?_)
     refine q_fieldAddr (i := 1) (listed' := #[true, true, false, false, false, false, false, false, false, false, false, false, false, false]) 14 Tryd.underlying29 rfl Tryd.sizeOf27 (by decide) rfl (by kernel_rfl) rfl f rfl rfl rfl (fun a f => ?_)
     refine q_boxCell (i := 2) (listed' := #[true, true, true, false, false, false, false, false, false, false, false, false, false, false]) 14 0 Pl27 rfl rfl rfl (by kernel_rfl) rfl f rfl rfl rfl (fun a f => ?_)
     refine q_op (i := 3) (listed' := #[true, true, true, true, false, false, false, false, false, false, false, false, false, false]) 14 rfl (by kernel_rfl) rfl f rfl rfl rfl (fun _ _ _ _ _ => r_move (f.eval rfl)) (fun a f => ?_)
     refine q_op (i := 4) (listed' := #[true, true, true, true, true, false, false, false, false, false, false, false, false, false]) 14 rfl (by kernel_rfl) rfl f rfl rfl rfl (fun _ _ _ _ _ => r_move (f.eval rfl)) (fun a f => ?_)
     obtain ⟨e_955, he_956, hs_871⟩ := bind_some hs_871
     refine q_at (i := 5) (listed' := #[true, true, true, true, true, true, false, false, false, false, false, false, false, false]) 14 T31 h1 he_956 rfl (by kernel_rfl) rfl f rfl rfl rfl rfl (fun p_957 c_958 a g_959 h_960 f => ?_)
     subst h_960
     refine q_loadAt (i := 6) (listed' := #[true, true, true, true, true, true, true, false, false, false, false, false, false, false]) 14 Pl2 g_959 rfl (by kernel_rfl) rfl f rfl rfl rfl (fun a f => ?_)
     obtain ⟨e_961, he_962, hs_871⟩ := bind_some hs_871
     refine q_at (i := 7) (listed' := #[true, true, true, true, true, true, true, true, false, false, false, false, false, false]) 14 T27 h0_0 he_962 rfl (by kernel_rfl) rfl f rfl rfl rfl rfl (fun p_963 c_964 a g_965 h_966 f => ?_)
     refine q_loadAt (i := 8) (listed' := #[true, true, true, true, true, true, true, true, true, false, false, false, false, false]) 14 Pl31 g_965 rfl (by kernel_rfl) rfl f rfl rfl rfl (fun a f => ?_)
     refine q_op (i := 9) (listed' := #[true, true, true, true, true, true, true, true, true, true, false, false, false, false]) 14 rfl (by kernel_rfl) rfl f rfl rfl rfl (fun _ _ _ _ _ => r_move (f.eval rfl)) (fun a f => ?_)
     obtain ⟨e_967, he_968, hs_871⟩ := bind_some hs_871
     refine q_at (i := 10) (listed' := #[true, true, true, true, true, true, true, true, true, true, true, false, false, false]) 14 T31 h_966 he_968 rfl (by kernel_rfl) rfl f rfl rfl rfl rfl (fun p_969 c_970 a g_971 h_972 f => ?_)
     subst h_972
     refine q_loadAt (i := 11) (listed' := #[true, true, true, true, true, true, true, true, true, true, true, true, false, false]) 14 Pl2 g_971 rfl (by kernel_rfl) rfl f rfl rfl rfl (fun a f => ?_)
     obtain ⟨y_973, hy_974, hs_871⟩ := bind_some hs_871
     refine q_call (i := 12) (listed' := #[true, true, true, true, true, true, true, true, true, true, true, true, true, false]) 14 rfl (by kernel_rfl) rfl f rfl rfl rfl Tryd.call68 (fun _ _ w hG_975 m => Wk.spec_l1Has m (RSl.mono (RI.mono _) _ _ _ _ hG_975 h1) hy_974) (fun a f => ?_)
     refine q_op (i := 13) (listed' := #[true, true, true, true, true, true, true, true, true, true, true, true, true, true]) 14 rfl (by kernel_rfl) rfl f rfl rfl rfl (fun _ _ _ _ _ => r_not (f.eval rfl)) (fun a f => ?_)
     refine q_end (fun G_976 w hl_977 m => ?_)
     have h1 := RSl.mono (RI.mono _) _ _ _ _ hl_977 h1
     have h_878 := RSl.mono (RI.mono _) _ _ _ _ hl_977 h_878
     have h0_0 := RSl.mono (RSl.mono (RI.mono _)) _ _ _ _ hl_977 h0_0
     have g_959 := At.mono hl_977 g_959
     have g_965 := At.mono hl_977 g_965
     have h_966 := RSl.mono (RI.mono _) _ _ _ _ hl_977 h_966
     have g_971 := At.mono hl_977 g_971
     have m : Mem W G_976 w (Itm.box b_2 29 [v0_0] :: H) := m
     refine l_nil ?_
     rcases cond_some hs_871 with ⟨hc_978, hs_871⟩ | ⟨hc_978, hs_871⟩
     ·refine k_true f rfl hc_978 ?_
      refine k_region ?_
      refine l_op f rfl rfl rfl (r_move (f.eval rfl)) (fun a f => ?_)
      refine l_op f rfl rfl rfl (r_move (f.eval rfl)) (fun a f => ?_)
      refine l_op f rfl rfl rfl (r_move (f.eval rfl)) (fun a f => ?_)
      obtain ⟨e_979, he_980, hs_871⟩ := bind_some hs_871
      refine l_at T31 f rfl rfl rfl h1 he_980 (fun p_981 c_982 a g_983 h_984 f => ?_)
      subst h_984
      refine l_loadAt m Pl2 f rfl rfl g_983 (fun a f => ?_)
      obtain ⟨y_985, hy_986, hs_871⟩ := bind_some hs_871
      refine l_res f rfl rfl Tryd.call70 (Wk.spec_l1Into m h_878 hy_986) (fun v_990 G_987 Ho_991 w hl_988 m hQ_989 a f => ?_)
      obtain ⟨v_992, rfl, rfl, h_993⟩ := hQ_989
      have h1 := RSl.mono (RI.mono _) _ _ _ _ hl_988 h1
      have h_878 := RSl.mono (RI.mono _) _ _ _ _ hl_988 h_878
      have g_983 := At.mono hl_988 g_983
      have h0_0 := RSl.mono (RSl.mono (RI.mono _)) _ _ _ _ hl_988 h0_0
      have m : Mem W G_987 w (Itm.box b_2 29 [v0_0] :: H) := m
      refine l_op f rfl rfl rfl (r_assign (f.eval rfl)) (fun a f => ?_)
      refine l_nil ?_
      refine k_region ?_
      refine l_op f rfl rfl rfl (r_move (f.eval rfl)) (fun a f => ?_)
      refine l_op f rfl rfl rfl (r_int (f.eval rfl) (f.eval rfl) b_add) (fun a f => ?_)
      refine l_op f rfl rfl rfl (r_assign (f.eval rfl)) (fun a f => ?_)
      refine l_nil ?_
      obtain rfl := Option.some.inj hs_871
      exact ⟨_, rfl, _, _, rfl, _, v_992, (GLe.trans hl_880 (GLe.trans hl_953 (GLe.trans hl_977 hl_988))), f.weak ⟨rfl, rfl, rfl, rfl, rfl, trivial⟩, m, h_993⟩
     ·refine k_false f rfl hc_978 ?_
      refine k_skip ?_
      refine k_region ?_
      refine l_op f rfl rfl rfl (r_move (f.eval rfl)) (fun a f => ?_)
      refine l_op f rfl rfl rfl (r_int (f.eval rfl) (f.eval rfl) b_add) (fun a f => ?_)
      refine l_op f rfl rfl rfl (r_assign (f.eval rfl)) (fun a f => ?_)
      refine l_nil ?_
      obtain rfl := Option.some.inj hs_871
      exact ⟨_, rfl, _, _, rfl, _, v_877, (GLe.trans hl_880 (GLe.trans hl_953 hl_977)), f.weak ⟨rfl, rfl, rfl, rfl, rfl, trivial⟩, m, h_878⟩
    ·refine k_false f rfl hc_954 ?_
     refine k_exit rfl ?_
     obtain rfl := Option.some.inj hs_871
     obtain rfl := hq_872 _ rfl
     exact ⟨_, rfl, _, v_877, (GLe.trans hl_880 hl_953), f.weak ⟨rfl, rfl, rfl, rfl, trivial⟩, m, h_878⟩
   ·rintro a w ⟨l_936, rfl, G_935, v_937, hl_939, f, m, h_938⟩
    have h1 := RSl.mono (RI.mono _) _ _ _ _ hl_939 h1
    have h0_0 := RSl.mono (RSl.mono (RI.mono _)) _ _ _ _ hl_939 h0_0
    refine k_region ?_
    refine l_op f rfl rfl rfl (r_move (f.eval rfl)) (fun a f => ?_)
    refine l_op f rfl rfl rfl (r_int (f.eval rfl) (f.eval rfl) b_add) (fun a f => ?_)
    refine l_op f rfl rfl rfl (r_assign (f.eval rfl)) (fun a f => ?_)
    refine l_nil ?_
    obtain rfl := Option.some.inj hs_498
    exact ⟨_, rfl, _, _, rfl, _, v_937, (GLe.trans hl_510 hl_939), f.weak ⟨rfl, rfl, rfl, rfl, trivial⟩, m, h_938⟩
  ·refine k_false f rfl hc_755 ?_
   refine k_exit rfl ?_
   have m : Mem W G_505 w H := Mem.drop (H' := [Itm.box b_2 29 [v0_0]]) m
   obtain rfl := Option.some.inj hs_498
   obtain rfl := hq_499 _ rfl
   exact ⟨_, rfl, _, v_507, hl_510, f.weak ⟨rfl, trivial⟩, m, h_508⟩
 ·rintro a w ⟨l_751, rfl, G_750, v_752, hl_754, f, m, h_753⟩
  refine k_seq ?_
  refine k_region ?_
  refine l_op f rfl rfl rfl (r_move (f.eval rfl)) (fun a f => ?_)
  refine l_op f rfl rfl rfl (r_assign (f.eval rfl)) (fun a f => ?_)
  refine l_nil ?_
  refine k_ret ?_
  obtain rfl := Option.some.inj hd
  exact ⟨[v_752], ⟨f.get _ _ rfl, trivial⟩, f.defers, _, [], (GLe.trans hl_503 hl_754), m, _, rfl, rfl, h_753⟩

theorem Wk.impl_inRange {W w : World} {G : GH} {H : List Itm} {x0 : Int} {x1 : Int} {x2 : Int} (m : Mem W G w (H))  {y : Bool} (hd : D.impl_inRange x0 x1 x2 = some y) :
  Calls Tryd.prog 75 #[(.int .i64 x0), (.int .i64 x1), (.int .i64 x2)] w (Res W G H (fun _ Ho v => Ho = [] ∧ v = (.bool y))) := by
 refine calls_b (args := [(.int .i64 x0), (.int .i64 x1), (.int .i64 x2)]) (N := 15) [.tmp 6] Tryd.func75 rfl rfl (Nat.le_of_ble_eq_true rfl) rfl (fun a f => ?_)
 unfold D.impl_inRange at hd
 refine k_seq ?_
 refine k_region ?_
 refine l_op f rfl rfl rfl (r_assign (f.eval rfl)) (fun a f => ?_)
 refine l_nil ?_
 refine k_seq ?_
 refine k_region ?_
 refine l_op f rfl rfl rfl (r_move (f.eval rfl)) (fun a f => ?_)
 refine l_op f rfl rfl rfl (r_move (f.eval rfl)) (fun a f => ?_)
 refine l_op f rfl rfl rfl (r_int (f.eval rfl) (f.eval rfl) b_leq) (fun a f => ?_)
 refine l_op f rfl rfl rfl (r_move (f.eval rfl)) (fun a f => ?_)
 refine l_cut 4 (fun a w => ∃ G_2, GLe G G_2 ∧ Mem W G_2 w (H) ∧ Fr a 15 [(0, (.int .i64 x0)), (1, (.int .i64 x1)), (2, (.int .i64 x2)), (7, (.int .i64 x1)), (8, (.int .i64 x0)), (9, (.bool (decide (x1 ≤ x0)))), (10, (.bool (decide (x1 ≤ x0)))), (14, (.bool ((decide (x1 ≤ x0)) && (decide (x0 ≤ x2)))))]) ?_ ?_
 ·rcases Bool.eq_false_or_eq_true (decide (x1 ≤ x0)) with hc_1 | hc_1
  ·refine l_run f rfl rfl hc_1 ?_
   refine l_op f rfl rfl rfl (r_move (f.eval rfl)) (fun a f => ?_)
   refine l_run f rfl rfl hc_1 ?_
   refine l_op f rfl rfl rfl (r_move (f.eval rfl)) (fun a f => ?_)
   refine l_run f rfl rfl hc_1 ?_
   refine l_op f rfl rfl rfl (r_int (f.eval rfl) (f.eval rfl) b_leq) (fun a f => ?_)
   refine l_op f rfl rfl rfl (r_pickT (f.eval rfl) hc_1 (f.eval rfl)) (fun a f => ?_)
   exact ⟨_, (GLe.refl _), m, f.weak ⟨rfl, rfl, rfl, rfl, rfl, rfl, rfl, by rw [hc_1]; rfl, trivial⟩⟩
  ·refine l_not' f rfl rfl rfl hc_1 (fun a f => ?_)
   refine l_not' f rfl rfl rfl hc_1 (fun a f => ?_)
   refine l_not' f rfl rfl rfl hc_1 (fun a f => ?_)
   refine l_op f rfl rfl rfl (r_pickF (f.eval rfl) hc_1 (f.eval rfl)) (fun a f => ?_)
   exact ⟨_, (GLe.refl _), m, f.weak ⟨rfl, rfl, rfl, rfl, rfl, rfl, rfl, by rw [hc_1]; rfl, trivial⟩⟩
 ·rintro a w ⟨G_2, hl_3, m, f⟩
  refine l_op f rfl rfl rfl (r_assign (f.eval rfl)) (fun a f => ?_)
  refine l_nil ?_
  refine k_ret ?_
  obtain rfl := Option.some.inj hd
  exact ⟨[(.bool ((decide (x1 ≤ x0)) && (decide (x0 ≤ x2))))], ⟨f.get _ _ rfl, trivial⟩, f.defers, _, [], hl_3, m, rfl, rfl⟩

theorem Wk.impl_increasing {W w : World} {G : GH} {H : List Itm} {v0 : Value} {x0 : (List Int)} {x1 : Int} (m : Mem W G w (H)) (h0 : RSl (RI .i64) G v0 x0) {y : Bool} (hd : D.impl_increasing x0 x1 = some y) :
  Calls Tryd.prog 56 #[v0, (.int .i64 x1)] w (Res W G H (fun _ Ho v => Ho = [] ∧ v = (.bool y))) := by
 refine calls_b (args := [v0, (.int .i64 x1)]) (N := 33) [.tmp 4] Tryd.func56 rfl rfl (Nat.le_of_ble_eq_true rfl) rfl (fun a f => ?_)
 unfold D.impl_increasing at hd
 refine k_seq ?_
 refine k_region ?_
 refine l_op f rfl rfl rfl (r_assign (f.eval rfl)) (fun a f => ?_)
 refine l_nil ?_
 refine k_seq ?_
 refine k_seq ?_
 refine k_region ?_
 refine l_op f rfl rfl rfl (r_move (f.eval rfl)) (fun a f => ?_)
 refine l_len Tryd.underlying31 f rfl rfl h0 (fun a f => ?_)
 refine l_op f rfl rfl rfl (r_move (f.eval rfl)) (fun a f => ?_)
 refine l_nil ?_
 obtain ⟨q_181, hl_182, hd⟩ := bind_some hd
 refine k_cut (fun a w => ∃ q_181' : Unit, q_181 = .inl q_181' ∧ ∃ (G_279 : GH), GLe G G_279 ∧ Fr a 33 [] ∧ Mem W G_279 w (H)) ?_ ?_
 ·refine k_block ?_
  refine k_loop (fun s_185 a w => ∃ x_188 : Int, x_188 = s_185 ∧ ∃ (G_187 : GH), GLe G G_187 ∧ Fr a 33 [(0, v0), (1, (.int .i64 x1)), (7, v0), (8, (.int .i64 (x0.length : Int))), (9, (.int .i64 x_188))] ∧ Mem W G_187 w (H)) hl_182 ⟨_, rfl, _, (GLe.refl _), f.weak ⟨rfl, rfl, rfl, rfl, rfl, trivial⟩, m⟩ ?_
  clear hl_182 f m
  rintro s_185 o_186 hs_183 hq_184 a w ⟨x_188, rfl, G_187, hl_189, f, m⟩
  have h0 := RSl.mono (RI.mono _) _ _ _ _ hl_189 h0
  refine k_seq ?_
  refine k_region ?_
  refine l_op f rfl rfl rfl (r_int (f.eval rfl) (f.eval rfl) b_lss) (fun a f => ?_)
  refine l_nil ?_
  refine k_seq ?_
  rcases cond_some hs_183 with ⟨hc_281, hs_183⟩ | ⟨hc_281, hs_183⟩
  ·refine k_true f rfl hc_281 ?_
   refine k_skip ?_
   refine k_seq ?_
   refine k_block ?_
   refine k_seq ?_
   refine k_region ?_
   refine l_op f rfl rfl rfl (r_move (f.eval rfl)) (fun a f => ?_)
   obtain ⟨e_282, he_283, hs_183⟩ := bind_some hs_183
   refine l_at T31 f rfl rfl rfl h0 he_283 (fun p_284 c_285 a g_286 h_287 f => ?_)
   subst h_287
   refine l_loadAt m Pl2 f rfl rfl g_286 (fun a f => ?_)
   refine l_op f rfl rfl rfl (r_assign (f.eval rfl)) (fun a f => ?_)
   refine l_op f rfl rfl rfl (r_assign (f.eval rfl)) (fun a f => ?_)
   refine l_nil ?_
   refine k_seq ?_
   refine k_region ?_
   refine l_op f rfl rfl rfl (r_move (f.eval rfl)) (fun a f => ?_)
   refine l_op f rfl rfl rfl (r_move (f.eval rfl)) (fun a f => ?_)
   refine l_op f rfl rfl rfl (r_int (f.eval rfl) (f.eval rfl) b_sub) (fun a f => ?_)
   obtain ⟨y_288, hy_289, hs_183⟩ := bind_some hs_183
   refine l_res f rfl rfl Tryd.call75 (Wk.impl_inRange m  hy_289) (fun v_293 G_290 Ho_294 w hl_291 m hQ_292 a f => ?_)
   obtain ⟨rfl, rfl⟩ := hQ_292
   have h0 := RSl.mono (RI.mono _) _ _ _ _ hl_291 h0
   have m : Mem W G_290 w (H) := m
   refine l_op f rfl rfl rfl (r_not (f.eval rfl)) (fun a f => ?_)
   refine l_op f rfl rfl rfl (r_move (f.eval rfl)) (fun a f => ?_)
   obtain ⟨b_344, hj_345, hs_183⟩ := bind_some hs_183
   refine l_cut 12 (fun a w => ∃ G_342, GLe G_290 G_342 ∧ Mem W G_342 w (H) ∧ Fr a 33 [(0, v0), (1, (.int .i64 x1)), (5, (.int .i64 x_188)), (6, (.int .i64 e_282)), (7, v0), (8, (.int .i64 (x0.length : Int))), (9, (.int .i64 x_188)), (14, (.int .i64 e_282)), (15, (.int .i64 x1)), (16, (.int .i64 (IntKind.i64.wrap (x1 - 1)))), (17, (.bool y_288)), (18, (.bool (!y_288))), (19, (.bool (!y_288))), (31, (.bool b_344))]) ?_ ?_
   ·rcases cond_some hj_345 with ⟨hc_295, hj_345⟩ | ⟨hc_295, hj_345⟩
    ·refine l_not' f rfl rfl rfl hc_295 (fun a f => ?_)
     refine l_not' f rfl rfl rfl hc_295 (fun a f => ?_)
     refine l_not' f rfl rfl rfl hc_295 (fun a f => ?_)
     refine l_notU f rfl rfl rfl (fun a f => ?_)
     refine l_notU f rfl rfl rfl (fun a f => ?_)
     refine l_notU f rfl rfl rfl (fun a f => ?_)
     refine l_notU f rfl rfl rfl (fun a f => ?_)
     refine l_notU f rfl rfl rfl (fun a f => ?_)
     refine l_notU f rfl rfl rfl (fun a f => ?_)
     refine l_notU f rfl rfl rfl (fun a f => ?_)
     refine l_not' f rfl rfl rfl hc_295 (fun a f => ?_)
     refine l_op f rfl rfl rfl (r_pickT (f.eval rfl) hc_295 (f.eval rfl)) (fun a f => ?_)
     obtain rfl := Option.some.inj hj_345
     exact ⟨_, (GLe.refl _), m, f.weak ⟨rfl, rfl, rfl, rfl, rfl, rfl, rfl, rfl, rfl, rfl, rfl, rfl, rfl, rfl, trivial⟩⟩
    ·refine l_run f rfl rfl hc_295 ?_
     refine l_op f rfl rfl rfl (r_move (f.eval rfl)) (fun a f => ?_)
     refine l_run f rfl rfl hc_295 ?_
     refine l_op f rfl rfl rfl (r_int (f.eval rfl) (f.eval rfl) b_gtr) (fun a f => ?_)
     refine l_run f rfl rfl hc_295 ?_
     refine l_op f rfl rfl rfl (r_move (f.eval rfl)) (fun a f => ?_)
     obtain ⟨b_361, hj_362, hj_345⟩ := bind_some hj_345
     refine l_cut 8 (fun a w => ∃ G_359, GLe G_290 G_359 ∧ Mem W G_359 w (H) ∧ Fr a 33 [(0, v0), (1, (.int .i64 x1)), (5, (.int .i64 x_188)), (6, (.int .i64 e_282)), (7, v0), (8, (.int .i64 (x0.length : Int))), (9, (.int .i64 x_188)), (14, (.int .i64 e_282)), (15, (.int .i64 x1)), (16, (.int .i64 (IntKind.i64.wrap (x1 - 1)))), (17, (.bool y_288)), (18, (.bool (!y_288))), (19, (.bool (!y_288))), (20, (.int .i64 x_188)), (21, (.bool (decide ((0 : Int) < x_188)))), (22, (.bool (decide ((0 : Int) < x_188)))), (30, (.bool b_361))]) ?_ ?_
     ·rcases cond_some hj_362 with ⟨hc_346, hj_362⟩ | ⟨hc_346, hj_362⟩
      ·refine l_run f rfl rfl hc_346 ?_
       refine l_op f rfl rfl rfl (r_move (f.eval rfl)) (fun a f => ?_)
       refine l_run f rfl rfl hc_346 ?_
       refine l_op f rfl rfl rfl (r_move (f.eval rfl)) (fun a f => ?_)
       refine l_run f rfl rfl hc_346 ?_
       refine l_op f rfl rfl rfl (r_int (f.eval rfl) (f.eval rfl) b_sub) (fun a f => ?_)
       refine l_run f rfl rfl hc_346 ?_
       obtain ⟨e_363, he_364, hj_362⟩ := bind_some hj_362
       refine l_at T31 f rfl rfl rfl h0 he_364 (fun p_365 c_366 a g_367 h_368 f => ?_)
       subst h_368
       refine l_run f rfl rfl hc_346 ?_
       refine l_loadAt m Pl2 f rfl rfl g_367 (fun a f => ?_)
       refine l_run f rfl rfl hc_346 ?_
       refine l_op f rfl rfl rfl (r_move (f.eval rfl)) (fun a f => ?_)
       refine l_run f rfl rfl hc_346 ?_
       refine l_op f rfl rfl rfl (r_int (f.eval rfl) (f.eval rfl) b_geq) (fun a f => ?_)
       refine l_run f rfl rfl hc_295 ?_
       refine l_op f rfl rfl rfl (r_pickT (f.eval rfl) hc_346 (f.eval rfl)) (fun a f => ?_)
       obtain rfl := Option.some.inj hj_362
       exact ⟨_, (GLe.refl _), m, f.weak ⟨rfl, rfl, rfl, rfl, rfl, rfl, rfl, rfl, rfl, rfl, rfl, rfl, rfl, rfl, rfl, rfl, rfl, trivial⟩⟩
      ·refine l_not' f rfl rfl rfl hc_346 (fun a f => ?_)
       refine l_not' f rfl rfl rfl hc_346 (fun a f => ?_)
       refine l_not' f rfl rfl rfl hc_346 (fun a f => ?_)
       refine l_not' f rfl rfl rfl hc_346 (fun a f => ?_)
       refine l_not' f rfl rfl rfl hc_346 (fun a f => ?_)
       refine l_not' f rfl rfl rfl hc_346 (fun a f => ?_)
       refine l_not' f rfl rfl rfl hc_346 (fun a f => ?_)
       refine l_run f rfl rfl hc_295 ?_
       refine l_op f rfl rfl rfl (r_pickF (f.eval rfl) hc_346 (f.eval rfl)) (fun a f => ?_)
       obtain rfl := Option.some.inj hj_362
       exact ⟨_, (GLe.refl _), m, f.weak ⟨rfl, rfl, rfl, rfl, rfl, rfl, rfl, rfl, rfl, rfl, rfl, rfl, rfl, rfl, rfl, rfl, rfl, trivial⟩⟩
     ·rintro a w ⟨G_359, hl_360, m, f⟩
      have h0 := RSl.mono (RI.mono _) _ _ _ _ hl_360 h0
      refine l_op f rfl rfl rfl (r_pickF (f.eval rfl) hc_295 (f.eval rfl)) (fun a f => ?_)
      obtain rfl := Option.some.inj hj_345
      exact ⟨_, hl_360, m, f.weak ⟨rfl, rfl, rfl, rfl, rfl, rfl, rfl, rfl, rfl, rfl, rfl, rfl, rfl, rfl, trivial⟩⟩
   ·rintro a w ⟨G_342, hl_343, m, f⟩
    have h0 := RSl.mono (RI.mono _) _ _ _ _ hl_343 h0
    refine l_nil ?_
    rcases cond_some hs_183 with ⟨hc_369, hs_183⟩ | ⟨hc_369, hs_183⟩
    ·refine k_true f rfl hc_369 ?_
     refine k_seq ?_
     refine k_region ?_
     refine l_op f rfl rfl rfl (r_assign (f.eval rfl)) (fun a f => ?_)
     refine l_nil ?_
     refine k_ret ?_
     obtain rfl := Option.some.inj hs_183
     obtain rfl := hq_184 _ rfl
     obtain rfl := Option.some.inj hd
     exact ⟨[(.bool false)], ⟨f.get _ _ rfl, trivial⟩, f.defers, _, [], (GLe.trans hl_189 (GLe.trans hl_291 hl_343)), m, rfl, rfl⟩
    ·refine k_false f rfl hc_369 ?_
     refine k_skip ?_
     refine k_region ?_
     refine l_op f rfl rfl rfl (r_int (f.eval rfl) (f.eval rfl) b_add) (fun a f => ?_)
     refine l_op f rfl rfl rfl (r_move (f.eval rfl)) (fun a f => ?_)
     refine l_nil ?_
     obtain rfl := Option.some.inj hs_183
     exact ⟨_, rfl, _, rfl, _, (GLe.trans hl_189 (GLe.trans hl_291 hl_343)), f.weak ⟨rfl, rfl, rfl, rfl, rfl, trivial⟩, m⟩
  ·refine k_false f rfl hc_281 ?_
   refine k_exit rfl ?_
   obtain rfl := Option.some.inj hs_183
   obtain rfl := hq_184 _ rfl
   exact ⟨_, rfl, _, hl_189, f.weak trivial, m⟩
 ·rintro a w ⟨_, rfl, G_279, hl_280, f, m⟩
  refine k_seq ?_
  refine k_region ?_
  refine l_op f rfl rfl rfl (r_assign (f.eval rfl)) (fun a f => ?_)
  refine l_nil ?_
  refine k_ret ?_
  obtain rfl := Option.some.inj hd
  exact ⟨[(.bool true)], ⟨f.get _ _ rfl, trivial⟩, f.defers, _, [], hl_280, m, rfl, rfl⟩

theorem Wk.slices_Index_int64_int64 {W w : World} {G : GH} {H : List Itm} {v0 : Value} {x0 : (List Int)} {x1 : Int} (m : Mem W G w (H)) (h0 : RSl (RI .i64) G v0 x0) {y : Int} (hd : D.slices_Index_int64_int64 x0 x1 = some y) :
  Calls Tryd.prog 124 #[v0, (.int .i64 x1)] w (Res W G H (fun _ Ho v => Ho = [] ∧ v = (.int .i64 y))) := by
 refine calls_b (args := [v0, (.int .i64 x1)]) (N := 19) [.tmp 4] Tryd.func124 rfl rfl (Nat.le_of_ble_eq_true rfl) rfl (fun a f => ?_)
 unfold D.slices_Index_int64_int64 at hd
 refine k_seq ?_
 refine k_region ?_
 refine l_op f rfl rfl rfl (r_assign (f.eval rfl)) (fun a f => ?_)
 refine l_nil ?_
 refine k_seq ?_
 refine k_seq ?_
 refine k_region ?_
 refine l_op f rfl rfl rfl (r_move (f.eval rfl)) (fun a f => ?_)
 refine l_len Tryd.underlying31 f rfl rfl h0 (fun a f => ?_)
 refine l_op f rfl rfl rfl (r_move (f.eval rfl)) (fun a f => ?_)
 refine l_nil ?_
 obtain ⟨q_19, hl_20, hd⟩ := bind_some hd
 refine k_cut (fun a w => ∃ q_19' : Unit, q_19 = .inl q_19' ∧ ∃ (G_36 : GH), GLe G G_36 ∧ Fr a 19 [] ∧ Mem W G_36 w (H)) ?_ ?_
 ·refine k_block ?_
  refine k_loop (fun s_23 a w => ∃ x_26 : Int, x_26 = s_23 ∧ ∃ (G_25 : GH), GLe G G_25 ∧ Fr a 19 [(0, v0), (1, (.int .i64 x1)), (7, (.int .i64 (x0.length : Int))), (8, (.int .i64 x_26))] ∧ Mem W G_25 w (H)) hl_20 ⟨_, rfl, _, (GLe.refl _), f.weak ⟨rfl, rfl, rfl, rfl, trivial⟩, m⟩ ?_
  clear hl_20 f m
  rintro s_23 o_24 hs_21 hq_22 a w ⟨x_26, rfl, G_25, hl_27, f, m⟩
  have h0 := RSl.mono (RI.mono _) _ _ _ _ hl_27 h0
  refine k_seq ?_
  refine k_region ?_
  refine l_op f rfl rfl rfl (r_int (f.eval rfl) (f.eval rfl) b_lss) (fun a f => ?_)
  refine l_nil ?_
  refine k_seq ?_
  rcases cond_some hs_21 with ⟨hc_38, hs_21⟩ | ⟨hc_38, hs_21⟩
  ·refine k_true f rfl hc_38 ?_
   refine k_skip ?_
   refine k_seq ?_
   refine k_block ?_
   refine k_seq ?_
   refine k_region ?_
   refine l_op f rfl rfl rfl (r_move (f.eval rfl)) (fun a f => ?_)
   refine l_op f rfl rfl rfl (r_assign (f.eval rfl)) (fun a f => ?_)
   refine l_nil ?_
   refine k_seq ?_
   refine k_region ?_
   refine l_op f rfl rfl rfl (r_move (f.eval rfl)) (fun a f => ?_)
   refine l_op f rfl rfl rfl (r_move (f.eval rfl)) (fun a f => ?_)
   refine l_op f rfl rfl rfl (r_move (f.eval rfl)) (fun a f => ?_)
   obtain ⟨e_39, he_40, hs_21⟩ := bind_some hs_21
   refine l_at T31 f rfl rfl rfl h0 he_40 (fun p_41 c_42 a g_43 h_44 f => ?_)
   subst h_44
   refine l_loadAt m Pl2 f rfl rfl g_43 (fun a f => ?_)
   refine l_op f rfl rfl rfl (r_int (f.eval rfl) (f.eval rfl) b_eql) (fun a f => ?_)
   refine l_nil ?_
   rcases cond_some hs_21 with ⟨hc_45, hs_21⟩ | ⟨hc_45, hs_21⟩
   ·refine k_true f rfl hc_45 ?_
    refine k_seq ?_
    refine k_region ?_
    refine l_op f rfl rfl rfl (r_move (f.eval rfl)) (fun a f => ?_)
    refine l_op f rfl rfl rfl (r_assign (f.eval rfl)) (fun a f => ?_)
    refine l_nil ?_
    refine k_ret ?_
    obtain rfl := Option.some.inj hs_21
    obtain rfl := hq_22 _ rfl
    obtain rfl := Option.some.inj hd
    exact ⟨[(.int .i64 x_26)], ⟨f.get _ _ rfl, trivial⟩, f.defers, _, [], hl_27, m, rfl, rfl⟩
   ·refine k_false f rfl hc_45 ?_
    refine k_skip ?_
    refine k_region ?_
    refine l_op f rfl rfl rfl (r_int (f.eval rfl) (f.eval rfl) b_add) (fun a f => ?_)
    refine l_op f rfl rfl rfl (r_move (f.eval rfl)) (fun a f => ?_)
    refine l_nil ?_
    obtain rfl := Option.some.inj hs_21
    exact ⟨_, rfl, _, rfl, _, hl_27, f.weak ⟨rfl, rfl, rfl, rfl, trivial⟩, m⟩
  ·refine k_false f rfl hc_38 ?_
   refine k_exit rfl ?_
   obtain rfl := Option.some.inj hs_21
   obtain rfl := hq_22 _ rfl
   exact ⟨_, rfl, _, hl_27, f.weak trivial, m⟩
 ·rintro a w ⟨_, rfl, G_36, hl_37, f, m⟩
  refine k_seq ?_
  refine k_region ?_
  refine l_op f rfl rfl rfl (r_assign (f.eval rfl)) (fun a f => ?_)
  refine l_nil ?_
  refine k_ret ?_
  obtain rfl := Option.some.inj hd
  exact ⟨[(.int .i64 (-1))], ⟨f.get _ _ rfl, trivial⟩, f.defers, _, [], hl_37, m, rfl, rfl⟩

theorem Wk.slices_Contains_int64_int64 {W w : World} {G : GH} {H : List Itm} {v0 : Value} {x0 : (List Int)} {x1 : Int} (m : Mem W G w (H)) (h0 : RSl (RI .i64) G v0 x0) {y : Bool} (hd : D.slices_Contains_int64_int64 x0 x1 = some y) :
  Calls Tryd.prog 103 #[v0, (.int .i64 x1)] w (Res W G H (fun _ Ho v => Ho = [] ∧ v = (.bool y))) := by
 refine calls_b (args := [v0, (.int .i64 x1)]) (N := 9) [.tmp 4] Tryd.func103 rfl rfl (Nat.le_of_ble_eq_true rfl) rfl (fun a f => ?_)
 unfold D.slices_Contains_int64_int64 at hd
 refine k_seq ?_
 refine k_region ?_
 refine l_op f rfl rfl rfl (r_assign (f.eval rfl)) (fun a f => ?_)
 refine l_nil ?_
 refine k_seq ?_
 refine k_region ?_
 refine l_op f rfl rfl rfl (r_move (f.eval rfl)) (fun a f => ?_)
 refine l_op f rfl rfl rfl (r_move (f.eval rfl)) (fun a f => ?_)
 obtain ⟨y_1, hy_2, hd⟩ := bind_some hd
 refine l_res f rfl rfl Tryd.call124 (Wk.slices_Index_int64_int64 m h0 hy_2) (fun v_6 G_3 Ho_7 w hl_4 m hQ_5 a f => ?_)
 obtain ⟨rfl, rfl⟩ := hQ_5
 have h0 := RSl.mono (RI.mono _) _ _ _ _ hl_4 h0
 have m : Mem W G_3 w (H) := m
 refine l_op f rfl rfl rfl (r_int (f.eval rfl) (f.eval rfl) b_geq) (fun a f => ?_)
 refine l_op f rfl rfl rfl (r_assign (f.eval rfl)) (fun a f => ?_)
 refine l_nil ?_
 refine k_ret ?_
 obtain rfl := Option.some.inj hd
 exact ⟨[(.bool (decide ((0 : Int) ≤ y_1)))], ⟨f.get _ _ rfl, trivial⟩, f.defers, _, [], hl_4, m, rfl, rfl⟩

theorem Wk.impl_GraphOk {W w : World} {G : GH} {H : List Itm} {v0_0 : Value} {x0_0 : (List (List Int))} (m : Mem W G w (H)) (h0_0 : RSl (RSl (RI .i64)) G v0_0 x0_0) {y : Bool} (hd : D.impl_GraphOk x0_0 = some y) :
  Calls Tryd.prog 55 #[(.agg #[v0_0])] w (Res W G H (fun _ Ho v => Ho = [] ∧ v = (.bool y))) := by
 refine calls_b (args := [(.agg #[v0_0])]) (N := 61) [.tmp 2] Tryd.func55 rfl rfl (Nat.le_of_ble_eq_true rfl) rfl (fun a f => ?_)
 unfold D.impl_GraphOk at hd
 refine k_seq ?_
 refine k_region ?_
 refine l_box (cs := [v0_0]) m f rfl rfl rfl (fun b_2 w a m f => ?_)
 refine l_op f rfl rfl rfl (r_assign (f.eval rfl)) (fun a f => ?_)
 refine l_nil ?_
 refine k_seq ?_
 refine k_region ?_
 refine l_fieldAddr Tryd.underlying29 rfl Tryd.sizeOf27 (by decide) f rfl rfl (fun a f => ?_)
 refine l_boxCell 0 0 m Pl27 f rfl rfl rfl rfl (fun a f => ?_)
 refine l_len Tryd.underlying27 f rfl rfl h0_0 (fun a f => ?_)
 refine l_op f rfl rfl rfl (r_assign (f.eval rfl)) (fun a f => ?_)
 refine l_nil ?_
 refine k_seq ?_
 refine k_seq ?_
 refine k_region ?_
 refine l_op f rfl rfl rfl (r_move (f.eval rfl)) (fun a f => ?_)
 refine l_op f rfl rfl rfl (r_int (f.eval rfl) (f.eval rfl) b_lss) (fun a f => ?_)
 refine l_op f rfl rfl rfl (r_move (f.eval rfl)) (fun a f => ?_)
 refine l_cut 3 (fun a w => ∃ G_4, GLe G G_4 ∧ Mem W G_4 w (Itm.box b_2 29 [v0_0] :: H) ∧ Fr a 61 [(0, (.agg #[v0_0])), (1, (.pointer (some ⟨b_2, 0, none⟩))), (3, (.int .i64 (x0_0.length : Int))), (13, (.int .i64 (x0_0.length : Int))), (14, (.bool (decide ((x0_0.length : Int) < 1)))), (15, (.bool (decide ((x0_0.length : Int) < 1)))), (18, (.bool ((decide ((x0_0.length : Int) < 1)) || (decide ((16 : Int) < (x0_0.length : Int))))))]) ?_ ?_
 ·rcases Bool.eq_false_or_eq_true (decide ((x0_0.length : Int) < 1)) with hc_3 | hc_3
  ·refine l_not' f rfl rfl rfl hc_3 (fun a f => ?_)
   refine l_not' f rfl rfl rfl hc_3 (fun a f => ?_)
   refine l_op f rfl rfl rfl (r_pickT (f.eval rfl) hc_3 (f.eval rfl)) (fun a f => ?_)
   exact ⟨_, (GLe.refl _), m, f.weak ⟨rfl, rfl, rfl, rfl, rfl, rfl, by rw [hc_3]; rfl, trivial⟩⟩
  ·refine l_run f rfl rfl hc_3 ?_
   refine l_op f rfl rfl rfl (r_move (f.eval rfl)) (fun a f => ?_)
   refine l_run f rfl rfl hc_3 ?_
   refine l_op f rfl rfl rfl (r_int (f.eval rfl) (f.eval rfl) b_gtr) (fun a f => ?_)
   refine l_op f rfl rfl rfl (r_pickF (f.eval rfl) hc_3 (f.eval rfl)) (fun a f => ?_)
   exact ⟨_, (GLe.refl _), m, f.weak ⟨rfl, rfl, rfl, rfl, rfl, rfl, by rw [hc_3]; rfl, trivial⟩⟩
 ·rintro a w ⟨G_4, hl_5, m, f⟩
  have h0_0 := RSl.mono (RSl.mono (RI.mono _)) _ _ _ _ hl_5 h0_0
  refine l_nil ?_
  rcases cond_some hd with ⟨hc_6, hd⟩ | ⟨hc_6, hd⟩
  ·refine k_true f rfl hc_6 ?_
   refine k_seq ?_
   refine k_region ?_
   refine l_op f rfl rfl rfl (r_assign (f.eval rfl)) (fun a f => ?_)
   refine l_nil ?_
   refine k_ret ?_
   have m : Mem W G_4 w H := Mem.drop (H' := [Itm.box b_2 29 [v0_0]]) m
   obtain rfl := Option.some.inj hd
   exact ⟨[(.bool false)], ⟨f.get _ _ rfl, trivial⟩, f.defers, _, [], hl_5, m, rfl, rfl⟩
  ·refine k_false f rfl hc_6 ?_
   refine k_skip ?_
   refine k_seq ?_
   refine k_seq ?_
   refine k_region ?_
   refine l_fieldAddr Tryd.underlying29 rfl Tryd.sizeOf27 (by decide) f rfl rfl (fun a f => ?_)
   refine l_boxCell 0 0 m Pl27 f rfl rfl rfl rfl (fun a f => ?_)
   refine l_len Tryd.underlying27 f rfl rfl h0_0 (fun a f => ?_)
   refine l_op f rfl rfl rfl (r_move (f.eval rfl)) (fun a f => ?_)
   refine l_nil ?_
   obtain ⟨q_91, hl_92, hd⟩ := bind_some hd
   refine k_cut (fun a w => ∃ q_91' : Unit, q_91 = .inl q_91' ∧ ∃ (G_141 : GH), GLe G_4 G_141 ∧ Fr a 61 [(1, (.pointer (some ⟨b_2, 0, none⟩)))] ∧ Mem W G_141 w (Itm.box b_2 29 [v0_0] :: H)) ?_ ?_
   ·refine k_block ?_
    refine k_loop (fun s_95 a w => ∃ x_98 : Int, x_98 = s_95 ∧ ∃ (G_97 : GH), GLe G_4 G_97 ∧ Fr a 61 [(1, (.pointer (some ⟨b_2, 0, none⟩))), (3, (.int .i64 (x0_0.length : Int))), (20, v0_0), (21, (.int .i64 (x0_0.length : Int))), (22, (.int .i64 x_98))] ∧ Mem W G_97 w (Itm.box b_2 29 [v0_0] :: H)) hl_92 ⟨_, rfl, _, (GLe.refl _), f.weak ⟨rfl, rfl, rfl, rfl, rfl, trivial⟩, m⟩ ?_
    clear hl_92 f m
    rintro s_95 o_96 hs_93 hq_94 a w ⟨x_98, rfl, G_97, hl_99, f, m⟩
    have h0_0 := RSl.mono (RSl.mono (RI.mono _)) _ _ _ _ hl_99 h0_0
    refine k_seq ?_
    refine k_region ?_
    refine l_op f rfl rfl rfl (r_int (f.eval rfl) (f.eval rfl) b_lss) (fun a f => ?_)
    refine l_nil ?_
    refine k_seq ?_
    rcases cond_some hs_93 with ⟨hc_143, hs_93⟩ | ⟨hc_143, hs_93⟩
    ·refine k_true f rfl hc_143 ?_
     refine k_skip ?_
     refine k_seq ?_
     refine k_block ?_
     refine k_seq ?_
     refine k_region ?_
     refine l_op f rfl rfl rfl (r_move (f.eval rfl)) (fun a f => ?_)
     obtain ⟨e_144, he_145, hs_93⟩ := bind_some hs_93
     refine l_at T27 f rfl rfl rfl h0_0 he_145 (fun p_146 c_147 a g_148 h_149 f => ?_)
     refine l_loadAt m Pl31 f rfl rfl g_148 (fun a f => ?_)
     refine l_op f rfl rfl rfl (r_assign (f.eval rfl)) (fun a f => ?_)
     refine l_op f rfl rfl rfl (r_assign (f.eval rfl)) (fun a f => ?_)
     refine l_nil ?_
     refine k_seq ?_
     refine k_region ?_
     refine l_op f rfl rfl rfl (r_move (f.eval rfl)) (fun a f => ?_)
     refine l_op f rfl rfl rfl (r_move (f.eval rfl)) (fun a f => ?_)
     obtain ⟨y_150, hy_151, hs_93⟩ := bind_some hs_93
     refine l_res f rfl rfl Tryd.call56 (Wk.impl_increasing m h_149 hy_151) (fun v_155 G_152 Ho_156 w hl_153 m hQ_154 a f => ?_)
     obtain ⟨rfl, rfl⟩ := hQ_154
     have h_149 := RSl.mono (RI.mono _) _ _ _ _ hl_153 h_149
     have h0_0 := RSl.mono (RSl.mono (RI.mono _)) _ _ _ _ hl_153 h0_0
     have m : Mem W G_152 w (Itm.box b_2 29 [v0_0] :: H) := m
     refine l_op f rfl rfl rfl (r_not (f.eval rfl)) (fun a f => ?_)
     refine l_op f rfl rfl rfl (r_move (f.eval rfl)) (fun a f => ?_)
     obtain ⟨b_174, hj_175, hs_93⟩ := bind_some hs_93
     refine l_cut 4 (fun a w => ∃ G_172, GLe G_152 G_172 ∧ Mem W G_172 w (Itm.box b_2 29 [v0_0] :: H) ∧ Fr a 61 [(1, (.pointer (some ⟨b_2, 0, none⟩))), (3, (.int .i64 (x0_0.length : Int))), (4, (.int .i64 x_98)), (5, c_147), (20, v0_0), (21, (.int .i64 (x0_0.length : Int))), (22, (.int .i64 x_98)), (27, c_147), (28, (.int .i64 (x0_0.length : Int))), (29, (.bool y_150)), (30, (.bool (!y_150))), (31, (.bool (!y_150))), (35, (.bool b_174))]) ?_ ?_
     ·rcases cond_some hj_175 with ⟨hc_157, hj_175⟩ | ⟨hc_157, hj_175⟩
      ·refine l_not' f rfl rfl rfl hc_157 (fun a f => ?_)
       refine l_not' f rfl rfl rfl hc_157 (fun a f => ?_)
       refine l_not' f rfl rfl rfl hc_157 (fun a f => ?_)
       refine l_op f rfl rfl rfl (r_pickT (f.eval rfl) hc_157 (f.eval rfl)) (fun a f => ?_)
       obtain rfl := Option.some.inj hj_175
       exact ⟨_, (GLe.refl _), m, f.weak ⟨rfl, rfl, rfl, rfl, rfl, rfl, rfl, rfl, rfl, rfl, rfl, rfl, rfl, trivial⟩⟩
      ·refine l_run f rfl rfl hc_157 ?_
       refine l_op f rfl rfl rfl (r_move (f.eval rfl)) (fun a f => ?_)
       refine l_run f rfl rfl hc_157 ?_
       refine l_op f rfl rfl rfl (r_move (f.eval rfl)) (fun a f => ?_)
       refine l_run f rfl rfl hc_157 ?_
       obtain ⟨y_176, hy_177, hj_175⟩ := bind_some hj_175
       refine l_res f rfl rfl Tryd.call103 (Wk.slices_Contains_int64_int64 m h_149 hy_177) (fun v_181 G_178 Ho_182 w hl_179 m hQ_180 a f => ?_)
       obtain ⟨rfl, rfl⟩ := hQ_180
       have h_149 := RSl.mono (RI.mono _) _ _ _ _ hl_179 h_149
       have h0_0 := RSl.mono (RSl.mono (RI.mono _)) _ _ _ _ hl_179 h0_0
       have m : Mem W G_178 w (Itm.box b_2 29 [v0_0] :: H) := m
       refine l_op f rfl rfl rfl (r_pickF (f.eval rfl) hc_157 (f.eval rfl)) (fun a f => ?_)
       obtain rfl := Option.some.inj hj_175
       exact ⟨_, hl_179, m, f.weak ⟨rfl, rfl, rfl, rfl, rfl, rfl, rfl, rfl, rfl, rfl, rfl, rfl, rfl, trivial⟩⟩
     ·rintro a w ⟨G_172, hl_173, m, f⟩
      have h_149 := RSl.mono (RI.mono _) _ _ _ _ hl_173 h_149
      have h0_0 := RSl.mono (RSl.mono (RI.mono _)) _ _ _ _ hl_173 h0_0
      refine l_nil ?_
      rcases cond_some hs_93 with ⟨hc_183, hs_93⟩ | ⟨hc_183, hs_93⟩
      ·refine k_true f rfl hc_183 ?_
       refine k_seq ?_
       refine k_region ?_
       refine l_op f rfl rfl rfl (r_assign (f.eval rfl)) (fun a f => ?_)
       refine l_nil ?_
       refine k_ret ?_
       have m : Mem W G_172 w H := Mem.drop (H' := [Itm.box b_2 29 [v0_0]]) m
       obtain rfl := Option.some.inj hs_93
       obtain rfl := hq_94 _ rfl
       obtain rfl := Option.some.inj hd
       exact ⟨[(.bool false)], ⟨f.get _ _ rfl, trivial⟩, f.defers, _, [], (GLe.trans hl_5 (GLe.trans hl_99 (GLe.trans hl_153 hl_173))), m, rfl, rfl⟩
      ·refine k_false f rfl hc_183 ?_
       refine k_skip ?_
       refine k_region ?_
       refine l_op f rfl rfl rfl (r_int (f.eval rfl) (f.eval rfl) b_add) (fun a f => ?_)
       refine l_op f rfl rfl rfl (r_move (f.eval rfl)) (fun a f => ?_)
       refine l_nil ?_
       obtain rfl := Option.some.inj hs_93
       exact ⟨_, rfl, _, rfl, _, (GLe.trans hl_99 (GLe.trans hl_153 hl_173)), f.weak ⟨rfl, rfl, rfl, rfl, rfl, trivial⟩, m⟩
    ·refine k_false f rfl hc_143 ?_
     refine k_exit rfl ?_
     obtain rfl := Option.some.inj hs_93
     obtain rfl := hq_94 _ rfl
     exact ⟨_, rfl, _, hl_99, f.weak ⟨rfl, trivial⟩, m⟩
   ·rintro a w ⟨_, rfl, G_141, hl_142, f, m⟩
    have h0_0 := RSl.mono (RSl.mono (RI.mono _)) _ _ _ _ hl_142 h0_0
    refine k_seq ?_
    refine k_seq ?_
    refine k_region ?_
    refine l_fieldAddr Tryd.underlying29 rfl Tryd.sizeOf27 (by decide) f rfl rfl (fun a f => ?_)
    refine l_boxCell 0 0 m Pl27 f rfl rfl rfl rfl (fun a f => ?_)
    refine l_len Tryd.underlying27 f rfl rfl h0_0 (fun a f => ?_)
    refine l_op f rfl rfl rfl (r_move (f.eval rfl)) (fun a f => ?_)
    refine l_nil ?_
    obtain ⟨q_394, hl_395, hd⟩ := bind_some hd
    refine k_cut (fun a w => ∃ q_394' : Unit, q_394 = .inl q_394' ∧ ∃ (G_507 : GH), GLe G_141 G_507 ∧ Fr a 61 [] ∧ Mem W G_507 w (H)) ?_ ?_
    ·refine k_block ?_
     refine k_loop (fun s_398 a w => ∃ x_401 : Int, x_401 = s_398 ∧ ∃ (G_400 : GH), GLe G_141 G_400 ∧ Fr a 61 [(1, (.pointer (some ⟨b_2, 0, none⟩))), (38, v0_0), (39, (.int .i64 (x0_0.length : Int))), (40, (.int .i64 x_401))] ∧ Mem W G_400 w (Itm.box b_2 29 [v0_0] :: H)) hl_395 ⟨_, rfl, _, (GLe.refl _), f.weak ⟨rfl, rfl, rfl, rfl, trivial⟩, m⟩ ?_
     clear hl_395 f m
     rintro s_398 o_399 hs_396 hq_397 a w ⟨x_401, rfl, G_400, hl_402, f, m⟩
     have h0_0 := RSl.mono (RSl.mono (RI.mono _)) _ _ _ _ hl_402 h0_0
     refine k_seq ?_
     refine k_region ?_
     refine l_op f rfl rfl rfl (r_int (f.eval rfl) (f.eval rfl) b_lss) (fun a f => ?_)
     refine l_nil ?_
     refine k_seq ?_
     rcases cond_some hs_396 with ⟨hc_509, hs_396⟩ | ⟨hc_509, hs_396⟩
     ·refine k_true f rfl hc_509 ?_
      refine k_skip ?_
      refine k_seq ?_
      refine k_block ?_
      refine k_seq ?_
      refine k_region ?_
      refine l_op f rfl rfl rfl (r_move (f.eval rfl)) (fun a f => ?_)
      obtain ⟨e_510, he_511, hs_396⟩ := bind_some hs_396
      refine l_at T27 f rfl rfl rfl h0_0 he_511 (fun p_512 c_513 a g_514 h_515 f => ?_)
      refine l_loadAt m Pl31 f rfl rfl g_514 (fun a f => ?_)
      refine l_op f rfl rfl rfl (r_assign (f.eval rfl)) (fun a f => ?_)
      refine l_op f rfl rfl rfl (r_assign (f.eval rfl)) (fun a f => ?_)
      refine l_nil ?_
      refine k_seq ?_
      refine k_region ?_
      refine l_op f rfl rfl rfl (r_move (f.eval rfl)) (fun a f => ?_)
      refine l_len Tryd.underlying31 f rfl rfl h_515 (fun a f => ?_)
      refine l_op f rfl rfl rfl (r_move (f.eval rfl)) (fun a f => ?_)
      refine l_nil ?_
      obtain ⟨q_560, hl_561, hs_396⟩ := bind_some hs_396
      refine k_cut (fun a w => ∃ q_560' : Unit, q_560 = .inl q_560' ∧ ∃ (G_590 : GH), GLe G_400 G_590 ∧ Fr a 61 [(1, (.pointer (some ⟨b_2, 0, none⟩))), (38, v0_0), (39, (.int .i64 (x0_0.length : Int))), (40, (.int .i64 x_401))] ∧ Mem W G_590 w (Itm.box b_2 29 [v0_0] :: H)) ?_ ?_
      ·refine k_block ?_
       refine k_loop (fun s_564 a w => ∃ x_567 : Int, x_567 = s_564 ∧ ∃ (G_566 : GH), GLe G_400 G_566 ∧ Fr a 61 [(1, (.pointer (some ⟨b_2, 0, none⟩))), (6, (.int .i64 x_401)), (38, v0_0), (39, (.int .i64 (x0_0.length : Int))), (40, (.int .i64 x_401)), (45, c_513), (46, (.int .i64 (e_510.length : Int))), (47, (.int .i64 x_567))] ∧ Mem W G_566 w (Itm.box b_2 29 [v0_0] :: H)) hl_561 ⟨_, rfl, _, (GLe.refl _), f.weak ⟨rfl, rfl, rfl, rfl, rfl, rfl, rfl, rfl, trivial⟩, m⟩ ?_
       clear hl_561 f m
       rintro s_564 o_565 hs_562 hq_563 a w ⟨x_567, rfl, G_566, hl_568, f, m⟩
       have h0_0 := RSl.mono (RSl.mono (RI.mono _)) _ _ _ _ hl_568 h0_0
       have h_515 := RSl.mono (RI.mono _) _ _ _ _ hl_568 h_515
       refine k_seq ?_
       refine k_region ?_
       refine l_op f rfl rfl rfl (r_int (f.eval rfl) (f.eval rfl) b_lss) (fun a f => ?_)
       refine l_nil ?_
       refine k_seq ?_
       rcases cond_some hs_562 with ⟨hc_592, hs_562⟩ | ⟨hc_592, hs_562⟩
       ·refine k_true f rfl hc_592 ?_
        refine k_skip ?_
        refine k_seq ?_
        refine k_block ?_
        refine k_seq ?_
        refine k_region ?_
        obtain ⟨e_593, he_594, hs_562⟩ := bind_some hs_562
        refine l_at T31 f rfl rfl rfl h_515 he_594 (fun p_595 c_596 a g_597 h_598 f => ?_)
        subst h_598
        refine l_loadAt m Pl2 f rfl rfl g_597 (fun a f => ?_)
        refine l_op f rfl rfl rfl (r_assign (f.eval rfl)) (fun a f => ?_)
        refine l_nil ?_
        refine k_seq ?_
        refine k_region ?_
        refine l_fieldAddr Tryd.underlying29 rfl Tryd.sizeOf27 (by decide) f rfl rfl (fun a f => ?_)
        refine l_boxCell 0 0 m Pl27 f rfl rfl rfl rfl (fun a f => ?_)
        refine l_op f rfl rfl rfl (r_move (f.eval rfl)) (fun a f => ?_)
        obtain ⟨e_599, he_600, hs_562⟩ := bind_some hs_562
        refine l_at T27 f rfl rfl rfl h0_0 he_600 (fun p_601 c_602 a g_603 h_604 f => ?_)
        refine l_loadAt m Pl31 f rfl rfl g_603 (fun a f => ?_)
        refine l_op f rfl rfl rfl (r_move (f.eval rfl)) (fun a f => ?_)
        obtain ⟨y_605, hy_606, hs_562⟩ := bind_some hs_562
        refine l_res f rfl rfl Tryd.call103 (Wk.slices_Contains_int64_int64 m h_604 hy_606) (fun v_610 G_607 Ho_611 w hl_608 m hQ_609 a f => ?_)
        obtain ⟨rfl, rfl⟩ := hQ_609
        have h0_0 := RSl.mono (RSl.mono (RI.mono _)) _ _ _ _ hl_608 h0_0
        have h_515 := RSl.mono (RI.mono _) _ _ _ _ hl_608 h_515
        have g_603 := At.mono hl_608 g_603
        have h_604 := RSl.mono (RI.mono _) _ _ _ _ hl_608 h_604
        have m : Mem W G_607 w (Itm.box b_2 29 [v0_0] :: H) := m
        refine l_op f rfl rfl rfl (r_not (f.eval rfl)) (fun a f => ?_)
        refine l_nil ?_
        rcases cond_some hs_562 with ⟨hc_612, hs_562⟩ | ⟨hc_612, hs_562⟩
        ·refine k_true f rfl hc_612 ?_
         refine k_seq ?_
         refine k_region ?_
         refine l_op f rfl rfl rfl (r_assign (f.eval rfl)) (fun a f => ?_)
         refine l_nil ?_
         refine k_ret ?_
         have m : Mem W G_607 w H := Mem.drop (H' := [Itm.box b_2 29 [v0_0]]) m
         obtain rfl := Option.some.inj hs_562
         obtain rfl := hq_563 _ rfl
         obtain rfl := Option.some.inj hs_396
         obtain rfl := hq_397 _ rfl
         obtain rfl := Option.some.inj hd
         exact ⟨[(.bool false)], ⟨f.get _ _ rfl, trivial⟩, f.defers, _, [], (GLe.trans hl_5 (GLe.trans hl_142 (GLe.trans hl_402 (GLe.trans hl_568 hl_608)))), m, rfl, rfl⟩
        ·refine k_false f rfl hc_612 ?_
         refine k_skip ?_
         refine k_region ?_
         refine l_op f rfl rfl rfl (r_int (f.eval rfl) (f.eval rfl) b_add) (fun a f => ?_)
         refine l_op f rfl rfl rfl (r_move (f.eval rfl)) (fun a f => ?_)
         refine l_nil ?_
         obtain rfl := Option.some.inj hs_562
         exact ⟨_, rfl, _, rfl, _, (GLe.trans hl_568 hl_608), f.weak ⟨rfl, rfl, rfl, rfl, rfl, rfl, rfl, rfl, trivial⟩, m⟩
       ·refine k_false f rfl hc_592 ?_
        refine k_exit rfl ?_
        obtain rfl := Option.some.inj hs_562
        obtain rfl := hq_563 _ rfl
        exact ⟨_, rfl, _, hl_568, f.weak ⟨rfl, rfl, rfl, rfl, trivial⟩, m⟩
      ·rintro a w ⟨_, rfl, G_590, hl_591, f, m⟩
       have h0_0 := RSl.mono (RSl.mono (RI.mono _)) _ _ _ _ hl_591 h0_0
       refine k_region ?_
       refine l_op f rfl rfl rfl (r_int (f.eval rfl) (f.eval rfl) b_add) (fun a f => ?_)
       refine l_op f rfl rfl rfl (r_move (f.eval rfl)) (fun a f => ?_)
       refine l_nil ?_
       obtain rfl := Option.some.inj hs_396
       exact ⟨_, rfl, _, rfl, _, (GLe.trans hl_402 hl_591), f.weak ⟨rfl, rfl, rfl, rfl, trivial⟩, m⟩
     ·refine k_false f rfl hc_509 ?_
      refine k_exit rfl ?_
      have m : Mem W G_400 w H := Mem.drop (H' := [Itm.box b_2 29 [v0_0]]) m
      obtain rfl := Option.some.inj hs_396
      obtain rfl := hq_397 _ rfl
      exact ⟨_, rfl, _, hl_402, f.weak trivial, m⟩
    ·rintro a w ⟨_, rfl, G_507, hl_508, f, m⟩
     refine k_seq ?_
     refine k_region ?_
     refine l_op f rfl rfl rfl (r_assign (f.eval rfl)) (fun a f => ?_)
     refine l_nil ?_
     refine k_ret ?_
     obtain rfl := Option.some.inj hd
     exact ⟨[(.bool true)], ⟨f.get _ _ rfl, trivial⟩, f.defers, _, [], (GLe.trans hl_5 (GLe.trans hl_142 hl_508)), m, rfl, rfl⟩

theorem Wk.impl_one {W w : World} {G : GH} {H : List Itm} {x0 : Int} (m : Mem W G w (H))  {y : Int} (hd : D.impl_one x0 = some y) :
  Calls Tryd.prog 48 #[(.int .i64 x0)] w (Res W G H (fun _ Ho v => Ho = [] ∧ v = (.int .u32 y))) := by
 refine calls_b (args := [(.int .i64 x0)]) (N := 5) [.tmp 2] Tryd.func48 rfl rfl (Nat.le_of_ble_eq_true rfl) rfl (fun a f => ?_)
 unfold D.impl_one at hd
 refine k_seq ?_
 refine k_region ?_
 refine l_op f rfl rfl rfl (r_assign (f.eval rfl)) (fun a f => ?_)
 refine l_nil ?_
 refine k_seq ?_
 refine k_region ?_
 refine l_op f rfl rfl rfl (r_move (f.eval rfl)) (fun a f => ?_)
 obtain ⟨hn_1, hd⟩ := cond_none hd
 refine l_op f rfl rfl rfl (r_shl (f.eval rfl) (f.eval rfl) hn_1) (fun a f => ?_)
 refine l_op f rfl rfl rfl (r_assign (f.eval rfl)) (fun a f => ?_)
 refine l_nil ?_
 refine k_ret ?_
 obtain rfl := Option.some.inj hd
 exact ⟨[(.int .u32 (ishl .u32 1 x0))], ⟨f.get _ _ rfl, trivial⟩, f.defers, _, [], (GLe.refl _), m, rfl, rfl⟩

theorem Wk.impl_maskOf {W w : World} {G : GH} {H : List Itm} {v0 : Value} {x0 : (List Int)} (m : Mem W G w (H)) (h0 : RSl (RI .i64) G v0 x0) {y : Int} (hd : D.impl_maskOf x0 = some y) :
  Calls Tryd.prog 101 #[v0] w (Res W G H (fun _ Ho v => Ho = [] ∧ v = (.int .u32 y))) := by
 refine calls_b (args := [v0]) (N := 18) [.tmp 2] Tryd.func101 rfl rfl (Nat.le_of_ble_eq_true rfl) rfl (fun a f => ?_)
 unfold D.impl_maskOf at hd
 refine k_seq ?_
 refine k_region ?_
 refine l_op f rfl rfl rfl (r_assign (f.eval rfl)) (fun a f => ?_)
 refine l_nil ?_
 refine k_seq ?_
 refine k_region ?_
 refine l_op f rfl rfl rfl (r_assign (f.eval rfl)) (fun a f => ?_)
 refine l_nil ?_
 refine k_seq ?_
 refine k_seq ?_
 refine k_region ?_
 refine l_op f rfl rfl rfl (r_move (f.eval rfl)) (fun a f => ?_)
 refine l_len Tryd.underlying31 f rfl rfl h0 (fun a f => ?_)
 refine l_op f rfl rfl rfl (r_move (f.eval rfl)) (fun a f => ?_)
 refine l_nil ?_
 obtain ⟨q_32, hl_33, hd⟩ := bind_some hd
 refine k_cut (fun a w => ∃ x_57 : Int, x_57 = q_32 ∧ ∃ (G_56 : GH), GLe G G_56 ∧ Fr a 18 [(3, (.int .u32 x_57))] ∧ Mem W G_56 w (H)) ?_ ?_
 ·refine k_block ?_
  refine k_loop (fun s_36 a w => ∃ x_39 : Int, ∃ x_40 : Int, (x_39, x_40) = s_36 ∧ ∃ (G_38 : GH), GLe G G_38 ∧ Fr a 18 [(3, (.int .u32 x_39)), (6, v0), (7, (.int .i64 (x0.length : Int))), (8, (.int .i64 x_40))] ∧ Mem W G_38 w (H)) hl_33 ⟨_, _, rfl, _, (GLe.refl _), f.weak ⟨rfl, rfl, rfl, rfl, trivial⟩, m⟩ ?_
  clear hl_33 f m
  rintro s_36 o_37 hs_34 hq_35 a w ⟨x_39, x_40, rfl, G_38, hl_41, f, m⟩
  have h0 := RSl.mono (RI.mono _) _ _ _ _ hl_41 h0
  refine k_seq ?_
  refine k_region ?_
  refine l_op f rfl rfl rfl (r_int (f.eval rfl) (f.eval rfl) b_lss) (fun a f => ?_)
  refine l_nil ?_
  refine k_seq ?_
  rcases cond_some hs_34 with ⟨hc_59, hs_34⟩ | ⟨hc_59, hs_34⟩
  ·refine k_true f rfl hc_59 ?_
   refine k_skip ?_
   refine k_seq ?_
   refine k_block ?_
   refine k_seq ?_
   refine k_region ?_
   obtain ⟨e_60, he_61, hs_34⟩ := bind_some hs_34
   refine l_at T31 f rfl rfl rfl h0 he_61 (fun p_62 c_63 a g_64 h_65 f => ?_)
   subst h_65
   refine l_loadAt m Pl2 f rfl rfl g_64 (fun a f => ?_)
   refine l_op f rfl rfl rfl (r_assign (f.eval rfl)) (fun a f => ?_)
   refine l_nil ?_
   refine k_region ?_
   refine l_op f rfl rfl rfl (r_move (f.eval rfl)) (fun a f => ?_)
   refine l_op f rfl rfl rfl (r_move (f.eval rfl)) (fun a f => ?_)
   obtain ⟨y_66, hy_67, hs_34⟩ := bind_some hs_34
   refine l_res f rfl rfl Tryd.call48 (Wk.impl_one m  hy_67) (fun v_71 G_68 Ho_72 w hl_69 m hQ_70 a f => ?_)
   obtain ⟨rfl, rfl⟩ := hQ_70
   have h0 := RSl.mono (RI.mono _) _ _ _ _ hl_69 h0
   have m : Mem W G_68 w (H) := m
   refine l_op f rfl rfl rfl (r_int (f.eval rfl) (f.eval rfl) b_or) (fun a f => ?_)
   refine l_op f rfl rfl rfl (r_assign (f.eval rfl)) (fun a f => ?_)
   refine l_nil ?_
   refine k_region ?_
   refine l_op f rfl rfl rfl (r_int (f.eval rfl) (f.eval rfl) b_add) (fun a f => ?_)
   refine l_op f rfl rfl rfl (r_move (f.eval rfl)) (fun a f => ?_)
   refine l_nil ?_
   obtain rfl := Option.some.inj hs_34
   exact ⟨_, rfl, _, _, rfl, _, (GLe.trans hl_41 hl_69), f.weak ⟨rfl, rfl, rfl, rfl, trivial⟩, m⟩
  ·refine k_false f rfl hc_59 ?_
   refine k_exit rfl ?_
   obtain rfl := Option.some.inj hs_34
   obtain rfl := hq_35 _ rfl
   exact ⟨_, rfl, _, hl_41, f.weak ⟨rfl, trivial⟩, m⟩
 ·rintro a w ⟨x_57, rfl, G_56, hl_58, f, m⟩
  refine k_seq ?_
  refine k_region ?_
  refine l_op f rfl rfl rfl (r_move (f.eval rfl)) (fun a f => ?_)
  refine l_op f rfl rfl rfl (r_assign (f.eval rfl)) (fun a f => ?_)
  refine l_nil ?_
  refine k_ret ?_
  obtain rfl := Option.some.inj hd
  exact ⟨[(.int .u32 x_57)], ⟨f.get _ _ rfl, trivial⟩, f.defers, _, [], hl_58, m, rfl, rfl⟩

theorem Wk.impl_netsOf {W w : World} {G : GH} {H : List Itm} {v0_0 : Value} {x0_0 : (List (List Int))} (m : Mem W G w (H)) (h0_0 : RSl (RSl (RI .i64)) G v0_0 x0_0) {y : ((List Int))} (hd : D.impl_netsOf x0_0 = some y) :
  Calls Tryd.prog 46 #[(.agg #[v0_0])] w (Res W G H (fun G' Ho v => ∃ r0 : Value, ∃ i0 : Itm, Ho = [i0] ∧ r0 = v ∧ Ow (RI .u32) 66 G' i0 r0 y)) := by
 refine calls_b (args := [(.agg #[v0_0])]) (N := 21) [.tmp 2] Tryd.func46 rfl rfl (Nat.le_of_ble_eq_true rfl) rfl (fun a f => ?_)
 unfold D.impl_netsOf at hd
 refine k_seq ?_
 refine k_region ?_
 refine l_box (cs := [v0_0]) m f rfl rfl rfl (fun b_2 w a m f => ?_)
 refine l_op f rfl rfl rfl (r_assign (f.eval rfl)) (fun a f => ?_)
 refine l_nil ?_
 refine k_seq ?_
 refine k_region ?_
 refine l_slit (R := (RI .u32)) (xs := ([] : List Int)) (RI.one _) m T61 f rfl rfl rfl (by decide) (All2.nil _) (fun it_3 v_4 w a m o_5 f => ?_)
 refine l_op f rfl rfl rfl (r_assign (f.eval rfl)) (fun a f => ?_)
 refine l_nil ?_
 refine k_seq ?_
 refine k_seq ?_
 refine k_region ?_
 refine l_fieldAddr Tryd.underlying29 rfl Tryd.sizeOf27 (by decide) f rfl rfl (fun a f => ?_)
 refine l_boxCell 1 0 m Pl27 f rfl rfl rfl rfl (fun a f => ?_)
 refine l_len Tryd.underlying27 f rfl rfl h0_0 (fun a f => ?_)
 refine l_op f rfl rfl rfl (r_move (f.eval rfl)) (fun a f => ?_)
 refine l_nil ?_
 obtain ⟨q_62, hl_63, hd⟩ := bind_some hd
 refine k_cut (fun a w => ∃ l_101 : List Int, l_101 = q_62 ∧ ∃ (G_100 : GH) (v_102 : Value) (it_103 : Itm), GLe G G_100 ∧ Fr a 21 [(3, v_102)] ∧ Mem W G_100 w (it_103 :: H) ∧ Ow (RI .u32) 66 G_100 it_103 v_102 l_101) ?_ ?_
 ·refine k_block ?_
  have m : Mem W G w (it_3 :: H) := m.eraseAt 1
  refine k_loop (fun s_66 a w => ∃ l_69 : List Int, ∃ x_74 : Int, (l_69, x_74) = s_66 ∧ ∃ (G_68 : GH) (v_70 : Value) (it_71 : Itm), GLe G G_68 ∧ Fr a 21 [(3, v_70), (8, v0_0), (9, (.int .i64 (x0_0.length : Int))), (10, (.int .i64 x_74))] ∧ Mem W G_68 w (it_71 :: H) ∧ Ow (RI .u32) 66 G_68 it_71 v_70 l_69) hl_63 ⟨_, _, rfl, _, v_4, it_3, (GLe.refl _), f.weak ⟨rfl, rfl, rfl, rfl, trivial⟩, m, o_5⟩ ?_
  clear hl_63 f m
  rintro s_66 o_67 hs_64 hq_65 a w ⟨l_69, x_74, rfl, G_68, v_70, it_71, hl_75, f, m, o_72⟩
  have h0_0 := RSl.mono (RSl.mono (RI.mono _)) _ _ _ _ hl_75 h0_0
  refine k_seq ?_
  refine k_region ?_
  refine l_op f rfl rfl rfl (r_int (f.eval rfl) (f.eval rfl) b_lss) (fun a f => ?_)
  refine l_nil ?_
  refine k_seq ?_
  rcases cond_some hs_64 with ⟨hc_107, hs_64⟩ | ⟨hc_107, hs_64⟩
  ·refine k_true f rfl hc_107 ?_
   refine k_skip ?_
   refine k_seq ?_
   refine k_block ?_
   refine k_seq ?_
   refine k_region ?_
   obtain ⟨e_108, he_109, hs_64⟩ := bind_some hs_64
   refine l_at T27 f rfl rfl rfl h0_0 he_109 (fun p_110 c_111 a g_112 h_113 f => ?_)
   refine l_loadAt m Pl31 f rfl rfl g_112 (fun a f => ?_)
   refine l_op f rfl rfl rfl (r_assign (f.eval rfl)) (fun a f => ?_)
   refine l_nil ?_
   refine k_region ?_
   refine l_op f rfl rfl rfl (r_move (f.eval rfl)) (fun a f => ?_)
   refine l_op f rfl rfl rfl (r_move (f.eval rfl)) (fun a f => ?_)
   obtain ⟨y_114, hy_115, hs_64⟩ := bind_some hs_64
   refine l_res f rfl rfl Tryd.call101 (Wk.impl_maskOf m h_113 hy_115) (fun v_119 G_116 Ho_120 w hl_117 m hQ_118 a f => ?_)
   obtain ⟨rfl, rfl⟩ := hQ_118
   have h_113 := RSl.mono (RI.mono _) _ _ _ _ hl_117 h_113
   have h0_0 := RSl.mono (RSl.mono (RI.mono _)) _ _ _ _ hl_117 h0_0
   have o_72 := Ow.mono (RI.mono _) hl_117 o_72
   have m : Mem W G_116 w (it_71 :: H) := m
   refine l_slit (R := (RI .u32)) (xs := ([y_114] : List Int)) (RI.one _) m T61 f rfl rfl rfl (by decide) (All2.cons rfl (All2.nil _)) (fun it_121 v_122 w a m o_123 f => ?_)
   obtain ⟨l_125, hx_126, hs_64⟩ := bind_some hs_64
   refine l_append (RI.one _) 1 m o_72 rfl T61 rfl (by decide) f rfl rfl rfl (Ow.src (j := 0) o_123 m rfl) hx_126 (fun it_127 v_128 w a m o_129 f => ?_)
   have m : Mem W G_116 w (it_121 :: it_127 :: H) := m
   refine l_op f rfl rfl rfl (r_assign (f.eval rfl)) (fun a f => ?_)
   refine l_nil ?_
   refine k_region ?_
   refine l_op f rfl rfl rfl (r_int (f.eval rfl) (f.eval rfl) b_add) (fun a f => ?_)
   refine l_op f rfl rfl rfl (r_move (f.eval rfl)) (fun a f => ?_)
   refine l_nil ?_
   have m : Mem W G_116 w (it_127 :: it_121 :: H) := m.front 1 rfl
   have m : Mem W G_116 w (it_127 :: H) := m.eraseAt 1
   obtain rfl := Option.some.inj hs_64
   exact ⟨_, rfl, _, _, rfl, _, v_128, it_127, (GLe.trans hl_75 hl_117), f.weak ⟨rfl, rfl, rfl, rfl, trivial⟩, m, o_129⟩
  ·refine k_false f rfl hc_107 ?_
   refine k_exit rfl ?_
   obtain rfl := Option.some.inj hs_64
   obtain rfl := hq_65 _ rfl
   exact ⟨_, rfl, _, v_70, it_71, hl_75, f.weak ⟨rfl, trivial⟩, m, o_72⟩
 ·rintro a w ⟨l_101, rfl, G_100, v_102, it_103, hl_106, f, m, o_104⟩
  refine k_seq ?_
  refine k_region ?_
  refine l_op f rfl rfl rfl (r_move (f.eval rfl)) (fun a f => ?_)
  refine l_op f rfl rfl rfl (r_assign (f.eval rfl)) (fun a f => ?_)
  refine l_nil ?_
  refine k_ret ?_
  obtain rfl := Option.some.inj hd
  exact ⟨[v_102], ⟨f.get _ _ rfl, trivial⟩, f.defers, _, [it_103], hl_106, m, _, _, rfl, rfl, o_104⟩

theorem Wk.impl_narrow {W w : World} {G : GH} {H : List Itm} {v0 : Value} {x0 : (List Int)} (m : Mem W G w (H)) (h0 : RSl (RI .i64) G v0 x0) {y : ((List Int))} (hd : D.impl_narrow x0 = some y) :
  Calls Tryd.prog 47 #[v0] w (Res W G H (fun G' Ho v => ∃ r0 : Value, ∃ i0 : Itm, Ho = [i0] ∧ r0 = v ∧ Ow (RI .i64) 3 G' i0 r0 y)) := by
 refine calls_b (args := [v0]) (N := 21) [.tmp 2] Tryd.func47 rfl rfl (Nat.le_of_ble_eq_true rfl) rfl (fun a f => ?_)
 unfold D.impl_narrow at hd
 refine k_seq ?_
 refine k_region ?_
 refine l_op f rfl rfl rfl (r_assign (f.eval rfl)) (fun a f => ?_)
 refine l_nil ?_
 refine k_seq ?_
 refine k_region ?_
 refine l_op f rfl rfl rfl (r_move (f.eval rfl)) (fun a f => ?_)
 refine l_len Tryd.underlying31 f rfl rfl h0 (fun a f => ?_)
 obtain ⟨l_1, hx_2, hd⟩ := bind_some hd
 refine l_make (R := (RI .i64)) m T63 rfl (by decide) rfl f rfl rfl rfl hx_2 (fun it_3 v_4 w a m o_5 f => ?_)
 refine l_op f rfl rfl rfl (r_assign (f.eval rfl)) (fun a f => ?_)
 refine l_nil ?_
 refine k_seq ?_
 refine k_seq ?_
 refine k_region ?_
 refine l_op f rfl rfl rfl (r_move (f.eval rfl)) (fun a f => ?_)
 refine l_len Tryd.underlying31 f rfl rfl h0 (fun a f => ?_)
 refine l_op f rfl rfl rfl (r_move (f.eval rfl)) (fun a f => ?_)
 refine l_nil ?_
 obtain ⟨q_48, hl_49, hd⟩ := bind_some hd
 refine k_cut (fun a w => ∃ l_80 : List Int, l_80 = q_48 ∧ ∃ (G_79 : GH) (v_81 : Value) (it_82 : Itm), GLe G G_79 ∧ Fr a 21 [(3, v_81)] ∧ Mem W G_79 w (it_82 :: H) ∧ Ow (RI .i64) 3 G_79 it_82 v_81 l_80) ?_ ?_
 ·refine k_block ?_
  refine k_loop (fun s_52 a w => ∃ l_55 : List Int, ∃ x_60 : Int, (l_55, x_60) = s_52 ∧ ∃ (G_54 : GH) (v_56 : Value) (it_57 : Itm), GLe G G_54 ∧ Fr a 21 [(3, v_56), (9, v0), (10, (.int .i64 (x0.length : Int))), (11, (.int .i64 x_60))] ∧ Mem W G_54 w (it_57 :: H) ∧ Ow (RI .i64) 3 G_54 it_57 v_56 l_55) hl_49 ⟨_, _, rfl, _, v_4, it_3, (GLe.refl _), f.weak ⟨rfl, rfl, rfl, rfl, trivial⟩, m, o_5⟩ ?_
  clear hl_49 f m
  rintro s_52 o_53 hs_50 hq_51 a w ⟨l_55, x_60, rfl, G_54, v_56, it_57, hl_61, f, m, o_58⟩
  have h0 := RSl.mono (RI.mono _) _ _ _ _ hl_61 h0
  refine k_seq ?_
  refine k_region ?_
  refine l_op f rfl rfl rfl (r_int (f.eval rfl) (f.eval rfl) b_lss) (fun a f => ?_)
  refine l_nil ?_
  refine k_seq ?_
  rcases cond_some hs_50 with ⟨hc_86, hs_50⟩ | ⟨hc_86, hs_50⟩
  ·refine k_true f rfl hc_86 ?_
   refine k_skip ?_
   refine k_seq ?_
   refine k_block ?_
   refine k_seq ?_
   refine k_region ?_
   obtain ⟨e_87, he_88, hs_50⟩ := bind_some hs_50
   refine l_at T31 f rfl rfl rfl h0 he_88 (fun p_89 c_90 a g_91 h_92 f => ?_)
   subst h_92
   refine l_loadAt m Pl2 f rfl rfl g_91 (fun a f => ?_)
   refine l_op f rfl rfl rfl (r_assign (f.eval rfl)) (fun a f => ?_)
   refine l_nil ?_
   refine k_region ?_
   refine l_op f rfl rfl rfl (r_move (f.eval rfl)) (fun a f => ?_)
   refine l_op f rfl rfl rfl (r_move (f.eval rfl)) (fun a f => ?_)
   refine l_slit (R := (RI .i64)) (xs := ([e_87] : List Int)) (RI.one _) m T63 f rfl rfl rfl (by decide) (All2.cons rfl (All2.nil _)) (fun it_93 v_94 w a m o_95 f => ?_)
   obtain ⟨l_97, hx_98, hs_50⟩ := bind_some hs_50
   refine l_append (RI.one _) 1 m o_58 rfl T63 rfl (by decide) f rfl rfl rfl (Ow.src (j := 0) o_95 m rfl) hx_98 (fun it_99 v_100 w a m o_101 f => ?_)
   have m : Mem W G_54 w (it_93 :: it_99 :: H) := m
   refine l_op f rfl rfl rfl (r_assign (f.eval rfl)) (fun a f => ?_)
   refine l_nil ?_
   refine k_region ?_
   refine l_op f rfl rfl rfl (r_int (f.eval rfl) (f.eval rfl) b_add) (fun a f => ?_)
   refine l_op f rfl rfl rfl (r_move (f.eval rfl)) (fun a f => ?_)
   refine l_nil ?_
   have m : Mem W G_54 w (it_99 :: it_93 :: H) := m.front 1 rfl
   have m : Mem W G_54 w (it_99 :: H) := m.eraseAt 1
   obtain rfl := Option.some.inj hs_50
   exact ⟨_, rfl, _, _, rfl, _, v_100, it_99, hl_61, f.weak ⟨rfl, rfl, rfl, rfl, trivial⟩, m, o_101⟩
  ·refine k_false f rfl hc_86 ?_
   refine k_exit rfl ?_
   obtain rfl := Option.some.inj hs_50
   obtain rfl := hq_51 _ rfl
   exact ⟨_, rfl, _, v_56, it_57, hl_61, f.weak ⟨rfl, trivial⟩, m, o_58⟩
 ·rintro a w ⟨l_80, rfl, G_79, v_81, it_82, hl_85, f, m, o_83⟩
  refine k_seq ?_
  refine k_region ?_
  refine l_op f rfl rfl rfl (r_move (f.eval rfl)) (fun a f => ?_)
  refine l_op f rfl rfl rfl (r_assign (f.eval rfl)) (fun a f => ?_)
  refine l_nil ?_
  refine k_ret ?_
  obtain rfl := Option.some.inj hd
  exact ⟨[v_81], ⟨f.get _ _ rfl, trivial⟩, f.defers, _, [it_82], hl_85, m, _, _, rfl, rfl, o_83⟩

theorem Wk.math_bits_TrailingZeros32 {W w : World} {G : GH} {H : List Itm} {x0 : Int} (hW : TabW W) (m : Mem W G w (H))  {y : Int} (hd : D.math_bits_TrailingZeros32 x0 = some y) :
  Calls Tryd.prog 118 #[(.int .u32 x0)] w (Res W G H (fun _ Ho v => Ho = [] ∧ v = (.int .i64 y))) := by
 refine calls_b (args := [(.int .u32 x0)]) (N := 14) [.tmp 2] Tryd.func118 rfl rfl (Nat.le_of_ble_eq_true rfl) rfl (fun a f => ?_)
 unfold D.math_bits_TrailingZeros32 at hd
 refine k_seq ?_
 refine k_region ?_
 refine l_op f rfl rfl rfl (r_assign (f.eval rfl)) (fun a f => ?_)
 refine l_nil ?_
 refine k_seq ?_
 refine k_seq ?_
 refine k_region ?_
 refine l_op f rfl rfl rfl (r_move (f.eval rfl)) (fun a f => ?_)
 refine l_op f rfl rfl rfl (r_int (f.eval rfl) (f.eval rfl) b_eql) (fun a f => ?_)
 refine l_nil ?_
 rcases cond_some hd with ⟨hc_1, hd⟩ | ⟨hc_1, hd⟩
 ·refine k_true f rfl hc_1 ?_
  refine k_seq ?_
  refine k_region ?_
  refine l_op f rfl rfl rfl (r_assign (f.eval rfl)) (fun a f => ?_)
  refine l_nil ?_
  refine k_ret ?_
  obtain rfl := Option.some.inj hd
  exact ⟨[(.int .i64 32)], ⟨f.get _ _ rfl, trivial⟩, f.defers, _, [], (GLe.refl _), m, rfl, rfl⟩
 ·refine k_false f rfl hc_1 ?_
  refine k_skip ?_
  refine k_seq ?_
  refine k_region ?_
  refine l_op f rfl rfl rfl (r_move (f.eval rfl)) (fun a f => ?_)
  refine l_op f rfl rfl rfl (r_move (f.eval rfl)) (fun a f => ?_)
  refine l_op f rfl rfl rfl (r_neg (f.eval rfl)) (fun a f => ?_)
  refine l_op f rfl rfl rfl (r_int (f.eval rfl) (f.eval rfl) b_and) (fun a f => ?_)
  refine l_op f rfl rfl rfl (r_int (f.eval rfl) (f.eval rfl) b_mul) (fun a f => ?_)
  refine l_op f rfl rfl rfl (r_shr (f.eval rfl) (f.eval rfl) (by decide)) (fun a f => ?_)
  obtain ⟨e_3, he_4, hd⟩ := bind_some hd
  refine l_tab hW m Tryd.underlying133 Tryd.sizeOf5 f rfl rfl he_4 (fun p_5 a g_6 f => ?_)
  refine l_loadAt m Pl5 f rfl rfl g_6 (fun a f => ?_)
  refine l_op f rfl rfl rfl (r_conv (f.eval rfl) ⟨_, Tryd.underlying5⟩ Tryd.underlying3) (fun a f => ?_)
  refine l_op f rfl rfl rfl (r_assign (f.eval rfl)) (fun a f => ?_)
  refine l_nil ?_
  refine k_ret ?_
  obtain rfl := Option.some.inj hd
  exact ⟨[(.int .i64 (IntKind.i64.wrap e_3))], ⟨f.get _ _ rfl, trivial⟩, f.defers, _, [], (GLe.refl _), m, rfl, rfl⟩

theorem Wk.impl_vset_least {W w : World} {G : GH} {H : List Itm} {x0 : Int} (hW : TabW W) (m : Mem W G w (H))  {y : Int} (hd : D.impl_vset_least x0 = some y) :
  Calls Tryd.prog 85 #[(.int .u32 x0)] w (Res W G H (fun _ Ho v => Ho = [] ∧ v = (.int .i64 y))) := by
 refine calls_b (args := [(.int .u32 x0)]) (N := 5) [.tmp 2] Tryd.func85 rfl rfl (Nat.le_of_ble_eq_true rfl) rfl (fun a f => ?_)
 unfold D.impl_vset_least at hd
 refine k_seq ?_
 refine k_region ?_
 refine l_op f rfl rfl rfl (r_assign (f.eval rfl)) (fun a f => ?_)
 refine l_nil ?_
 refine k_seq ?_
 refine k_region ?_
 refine l_op f rfl rfl rfl (r_move (f.eval rfl)) (fun a f => ?_)
 obtain ⟨y_1, hy_2, hd⟩ := bind_some hd
 refine l_res f rfl rfl Tryd.call118 (Wk.math_bits_TrailingZeros32 hW m  hy_2) (fun v_6 G_3 Ho_7 w hl_4 m hQ_5 a f => ?_)
 obtain ⟨rfl, rfl⟩ := hQ_5
 have m : Mem W G_3 w (H) := m
 refine l_op f rfl rfl rfl (r_assign (f.eval rfl)) (fun a f => ?_)
 refine l_nil ?_
 refine k_ret ?_
 obtain rfl := Option.some.inj hd
 exact ⟨[(.int .i64 y_1)], ⟨f.get _ _ rfl, trivial⟩, f.defers, _, [], hl_4, m, rfl, rfl⟩

theorem Wk.impl_vset_list {W w : World} {G : GH} {H : List Itm} {x0 : Int} (hW : TabW W) (m : Mem W G w (H))  {y : ((List Int))} (hd : D.impl_vset_list x0 = some y) :
  Calls Tryd.prog 62 #[(.int .u32 x0)] w (Res W G H (fun G' Ho v => ∃ r0 : Value, ∃ i0 : Itm, Ho = [i0] ∧ r0 = v ∧ Ow (RI .i64) 3 G' i0 r0 y)) := by
 refine calls_b (args := [(.int .u32 x0)]) (N := 17) [.tmp 2] Tryd.func62 rfl rfl (Nat.le_of_ble_eq_true rfl) rfl (fun a f => ?_)
 unfold D.impl_vset_list at hd
 refine k_seq ?_
 refine k_region ?_
 refine l_op f rfl rfl rfl (r_assign (f.eval rfl)) (fun a f => ?_)
 refine l_nil ?_
 refine k_seq ?_
 refine k_region ?_
 refine l_slit (R := (RI .i64)) (xs := ([] : List Int)) (RI.one _) m T63 f rfl rfl rfl (by decide) (All2.nil _) (fun it_1 v_2 w a m o_3 f => ?_)
 refine l_op f rfl rfl rfl (r_assign (f.eval rfl)) (fun a f => ?_)
 refine l_nil ?_
 refine k_seq ?_
 obtain ⟨q_48, hl_49, hd⟩ := bind_some hd
 refine k_cut (fun a w => ∃ l_81 : List Int, l_81 = q_48 ∧ ∃ (G_80 : GH) (v_82 : Value) (it_83 : Itm), GLe G G_80 ∧ Fr a 17 [(3, v_82)] ∧ Mem W G_80 w (it_83 :: H) ∧ Ow (RI .i64) 3 G_80 it_83 v_82 l_81) ?_ ?_
 ·refine k_block ?_
  refine k_loop (fun s_52 a w => ∃ x_55 : Int, ∃ l_56 : List Int, (x_55, l_56) = s_52 ∧ ∃ (G_54 : GH) (v_57 : Value) (it_58 : Itm), GLe G G_54 ∧ Fr a 17 [(0, (.int .u32 x_55)), (3, v_57)] ∧ Mem W G_54 w (it_58 :: H) ∧ Ow (RI .i64) 3 G_54 it_58 v_57 l_56) hl_49 ⟨_, _, rfl, _, v_2, it_1, (GLe.refl _), f.weak ⟨rfl, rfl, trivial⟩, m, o_3⟩ ?_
  clear hl_49 f m
  rintro s_52 o_53 hs_50 hq_51 a w ⟨x_55, l_56, rfl, G_54, v_57, it_58, hl_61, f, m, o_59⟩
  refine k_seq ?_
  refine k_seq ?_
  refine k_region ?_
  refine l_op f rfl rfl rfl (r_move (f.eval rfl)) (fun a f => ?_)
  refine l_op f rfl rfl rfl (r_int (f.eval rfl) (f.eval rfl) b_neq) (fun a f => ?_)
  refine l_nil ?_
  rcases cond_some hs_50 with ⟨hc_87, hs_50⟩ | ⟨hc_87, hs_50⟩
  ·refine k_true f rfl hc_87 ?_
   refine k_skip ?_
   refine k_seq ?_
   refine k_block ?_
   refine k_region ?_
   refine l_op f rfl rfl rfl (r_move (f.eval rfl)) (fun a f => ?_)
   refine l_op f rfl rfl rfl (r_move (f.eval rfl)) (fun a f => ?_)
   obtain ⟨y_88, hy_89, hs_50⟩ := bind_some hs_50
   refine l_res f rfl rfl Tryd.call85 (Wk.impl_vset_least hW m  hy_89) (fun v_93 G_90 Ho_94 w hl_91 m hQ_92 a f => ?_)
   obtain ⟨rfl, rfl⟩ := hQ_92
   have o_59 := Ow.mono (RI.mono _) hl_91 o_59
   have m : Mem W G_90 w (it_58 :: H) := m
   refine l_slit (R := (RI .i64)) (xs := ([y_88] : List Int)) (RI.one _) m T63 f rfl rfl rfl (by decide) (All2.cons rfl (All2.nil _)) (fun it_95 v_96 w a m o_97 f => ?_)
   obtain ⟨l_99, hx_100, hs_50⟩ := bind_some hs_50
   refine l_append (RI.one _) 1 m o_59 rfl T63 rfl (by decide) f rfl rfl rfl (Ow.src (j := 0) o_97 m rfl) hx_100 (fun it_101 v_102 w a m o_103 f => ?_)
   have m : Mem W G_90 w (it_95 :: it_101 :: H) := m
   refine l_op f rfl rfl rfl (r_assign (f.eval rfl)) (fun a f => ?_)
   refine l_nil ?_
   refine k_region ?_
   refine l_op f rfl rfl rfl (r_move (f.eval rfl)) (fun a f => ?_)
   refine l_op f rfl rfl rfl (r_move (f.eval rfl)) (fun a f => ?_)
   refine l_op f rfl rfl rfl (r_int (f.eval rfl) (f.eval rfl) b_sub) (fun a f => ?_)
   refine l_op f rfl rfl rfl (r_int (f.eval rfl) (f.eval rfl) b_and) (fun a f => ?_)
   refine l_op f rfl rfl rfl (r_assign (f.eval rfl)) (fun a f => ?_)
   refine l_nil ?_
   have m : Mem W G_90 w (it_101 :: it_95 :: H) := m.front 1 rfl
   have m : Mem W G_90 w (it_101 :: H) := m.eraseAt 1
   obtain rfl := Option.some.inj hs_50
   exact ⟨_, rfl, _, _, rfl, _, v_102, it_101, (GLe.trans hl_61 hl_91), f.weak ⟨rfl, rfl, trivial⟩, m, o_103⟩
  ·refine k_false f rfl hc_87 ?_
   refine k_exit rfl ?_
   obtain rfl := Option.some.inj hs_50
   obtain rfl := hq_51 _ rfl
   exact ⟨_, rfl, _, v_57, it_58, hl_61, f.weak ⟨rfl, trivial⟩, m, o_59⟩
 ·rintro a w ⟨l_81, rfl, G_80, v_82, it_83, hl_86, f, m, o_84⟩
  refine k_seq ?_
  refine k_region ?_
  refine l_op f rfl rfl rfl (r_move (f.eval rfl)) (fun a f => ?_)
  refine l_op f rfl rfl rfl (r_assign (f.eval rfl)) (fun a f => ?_)
  refine l_nil ?_
  refine k_ret ?_
  obtain rfl := Option.some.inj hd
  exact ⟨[v_82], ⟨f.get _ _ rfl, trivial⟩, f.defers, _, [it_83], hl_86, m, _, _, rfl, rfl, o_84⟩

theorem Wk.impl_openOf {W w : World} {G : GH} {H : List Itm} {v0 : Value} {x0 : (List Int)} {x1 : Int} (hW : TabW W) (m : Mem W G w (H)) (h0 : RSl (RI .u32) G v0 x0) {y : Int} (hd : D.impl_openOf x0 x1 = some y) :
  Calls Tryd.prog 49 #[v0, (.int .u32 x1)] w (Res W G H (fun _ Ho v => Ho = [] ∧ v = (.int .u32 y))) := by
 refine calls_b (args := [v0, (.int .u32 x1)]) (N := 28) [.tmp 4] Tryd.func49 rfl rfl (Nat.le_of_ble_eq_true rfl) rfl (fun a f => ?_)
 unfold D.impl_openOf at hd
 refine k_seq ?_
 refine k_region ?_
 refine l_op f rfl rfl rfl (r_assign (f.eval rfl)) (fun a f => ?_)
 refine l_nil ?_
 refine k_seq ?_
 refine k_region ?_
 refine l_op f rfl rfl rfl (r_assign (f.eval rfl)) (fun a f => ?_)
 refine l_nil ?_
 refine k_seq ?_
 refine k_seq ?_
 refine k_region ?_
 refine l_op f rfl rfl rfl (r_move (f.eval rfl)) (fun a f => ?_)
 obtain ⟨y_1, hy_2, hd⟩ := bind_some hd
 refine l_res f rfl rfl Tryd.call62 (Wk.impl_vset_list hW m  hy_2) (fun v_6 G_3 Ho_7 w hl_4 m hQ_5 a f => ?_)
 obtain ⟨v_8, it_9, rfl, rfl, o_10⟩ := hQ_5
 have h0 := RSl.mono (RI.mono _) _ _ _ _ hl_4 h0
 have m : Mem W G_3 w (it_9 :: H) := m
 refine l_own_len 0 m o_10 rfl Tryd.underlying63 f rfl rfl (fun a f => ?_)
 refine l_op f rfl rfl rfl (r_move (f.eval rfl)) (fun a f => ?_)
 refine l_nil ?_
 obtain ⟨q_57, hl_58, hd⟩ := bind_some hd
 refine k_cut (fun a w => ∃ x_89 : Int, x_89 = q_57 ∧ ∃ (G_88 : GH), GLe G_3 G_88 ∧ Fr a 28 [(5, (.int .u32 x_89))] ∧ Mem W G_88 w (H)) ?_ ?_
 ·refine k_block ?_
  refine k_loop (fun s_61 a w => ∃ x_64 : Int, ∃ x_65 : Int, (x_64, x_65) = s_61 ∧ ∃ (G_63 : GH), GLe G_3 G_63 ∧ Fr a 28 [(0, v0), (1, (.int .u32 x1)), (5, (.int .u32 x_64)), (9, v_8), (10, (.int .i64 (y_1.length : Int))), (11, (.int .i64 x_65))] ∧ Mem W G_63 w (it_9 :: H)) hl_58 ⟨_, _, rfl, _, (GLe.refl _), f.weak ⟨rfl, rfl, rfl, rfl, rfl, rfl, trivial⟩, m⟩ ?_
  clear hl_58 f m
  rintro s_61 o_62 hs_59 hq_60 a w ⟨x_64, x_65, rfl, G_63, hl_66, f, m⟩
  have h0 := RSl.mono (RI.mono _) _ _ _ _ hl_66 h0
  have o_10 := Ow.mono (RI.mono _) hl_66 o_10
  refine k_seq ?_
  refine k_region ?_
  refine l_op f rfl rfl rfl (r_int (f.eval rfl) (f.eval rfl) b_lss) (fun a f => ?_)
  refine l_nil ?_
  refine k_seq ?_
  rcases cond_some hs_59 with ⟨hc_91, hs_59⟩ | ⟨hc_91, hs_59⟩
  ·refine k_true f rfl hc_91 ?_
   refine k_skip ?_
   refine k_seq ?_
   refine k_block ?_
   refine k_seq ?_
   refine k_region ?_
   obtain ⟨e_92, he_93, hs_59⟩ := bind_some hs_59
   refine l_own_at 0 m o_10 rfl T63 f rfl rfl rfl he_93 (fun p_94 a ha_95 f => ?_)
   refine l_own_load 0 m o_10 rfl Pl3 f rfl rfl ha_95 he_93 (fun c_96 a h_97 f => ?_)
   subst h_97
   refine l_op f rfl rfl rfl (r_assign (f.eval rfl)) (fun a f => ?_)
   refine l_nil ?_
   refine k_seq ?_
   refine k_region ?_
   refine l_op f rfl rfl rfl (r_move (f.eval rfl)) (fun a f => ?_)
   refine l_op f rfl rfl rfl (r_move (f.eval rfl)) (fun a f => ?_)
   obtain ⟨e_98, he_99, hs_59⟩ := bind_some hs_59
   refine l_at T61 f rfl rfl rfl h0 he_99 (fun p_100 c_101 a g_102 h_103 f => ?_)
   subst h_103
   refine l_loadAt m Pl66 f rfl rfl g_102 (fun a f => ?_)
   refine l_op f rfl rfl rfl (r_move (f.eval rfl)) (fun a f => ?_)
   refine l_op f rfl rfl rfl (r_int (f.eval rfl) (f.eval rfl) b_andNot) (fun a f => ?_)
   refine l_op f rfl rfl rfl (r_int (f.eval rfl) (f.eval rfl) b_neq) (fun a f => ?_)
   refine l_nil ?_
   rcases cond_some hs_59 with ⟨hc_104, hs_59⟩ | ⟨hc_104, hs_59⟩
   ·refine k_true f rfl hc_104 ?_
    refine k_region ?_
    refine l_op f rfl rfl rfl (r_move (f.eval rfl)) (fun a f => ?_)
    refine l_op f rfl rfl rfl (r_move (f.eval rfl)) (fun a f => ?_)
    obtain ⟨y_105, hy_106, hs_59⟩ := bind_some hs_59
    refine l_res f rfl rfl Tryd.call48 (Wk.impl_one m  hy_106) (fun v_110 G_107 Ho_111 w hl_108 m hQ_109 a f => ?_)
    obtain ⟨rfl, rfl⟩ := hQ_109
    have h0 := RSl.mono (RI.mono _) _ _ _ _ hl_108 h0
    have o_10 := Ow.mono (RI.mono _) hl_108 o_10
    have m : Mem W G_107 w (it_9 :: H) := m
    refine l_op f rfl rfl rfl (r_int (f.eval rfl) (f.eval rfl) b_or) (fun a f => ?_)
    refine l_op f rfl rfl rfl (r_assign (f.eval rfl)) (fun a f => ?_)
    refine l_nil ?_
    refine k_region ?_
    refine l_op f rfl rfl rfl (r_int (f.eval rfl) (f.eval rfl) b_add) (fun a f => ?_)
    refine l_op f rfl rfl rfl (r_move (f.eval rfl)) (fun a f => ?_)
    refine l_nil ?_
    obtain rfl := Option.some.inj hs_59
    exact ⟨_, rfl, _, _, rfl, _, (GLe.trans hl_66 hl_108), f.weak ⟨rfl, rfl, rfl, rfl, rfl, rfl, trivial⟩, m⟩
   ·refine k_false f rfl hc_104 ?_
    refine k_skip ?_
    refine k_region ?_
    refine l_op f rfl rfl rfl (r_int (f.eval rfl) (f.eval rfl) b_add) (fun a f => ?_)
    refine l_op f rfl rfl rfl (r_move (f.eval rfl)) (fun a f => ?_)
    refine l_nil ?_
    obtain rfl := Option.some.inj hs_59
    exact ⟨_, rfl, _, _, rfl, _, hl_66, f.weak ⟨rfl, rfl, rfl, rfl, rfl, rfl, trivial⟩, m⟩
  ·refine k_false f rfl hc_91 ?_
   refine k_exit rfl ?_
   have m : Mem W G_63 w H := Mem.drop (H' := [it_9]) m
   obtain rfl := Option.some.inj hs_59
   obtain rfl := hq_60 _ rfl
   exact ⟨_, rfl, _, hl_66, f.weak ⟨rfl, trivial⟩, m⟩
 ·rintro a w ⟨x_89, rfl, G_88, hl_90, f, m⟩
  refine k_seq ?_
  refine k_region ?_
  refine l_op f rfl rfl rfl (r_move (f.eval rfl)) (fun a f => ?_)
  refine l_op f rfl rfl rfl (r_assign (f.eval rfl)) (fun a f => ?_)
  refine l_nil ?_
  refine k_ret ?_
  obtain rfl := Option.some.inj hd
  exact ⟨[(.int .u32 x_89)], ⟨f.get _ _ rfl, trivial⟩, f.defers, _, [], (GLe.trans hl_4 hl_90), m, rfl, rfl⟩

theorem Wk.impl_pathBags {W w : World} {G : GH} {H : List Itm} {v0 : Value} {v1 : Value} {x0 : (List Int)} {x1 : (List Int)} (hW : TabW W) (m : Mem W G w (H)) (h0 : RSl (RI .u32) G v0 x0) (h1 : RSl (RI .i64) G v1 x1) {y : ((List Int))} (hd : D.impl_pathBags x0 x1 = some y) :
  Calls Tryd.prog 45 #[v0, v1] w (Res W G H (fun G' Ho v => ∃ r0 : Value, ∃ i0 : Itm, Ho = [i0] ∧ r0 = v ∧ Ow (RI .u32) 66 G' i0 r0 y)) := by
 refine calls_b (args := [v0, v1]) (N := 31) [.tmp 4] Tryd.func45 rfl rfl (Nat.le_of_ble_eq_true rfl) rfl (fun a f => ?_)
 unfold D.impl_pathBags at hd
 refine k_seq ?_
 refine k_region ?_
 refine l_op f rfl rfl rfl (r_assign (f.eval rfl)) (fun a f => ?_)
 refine l_nil ?_
 refine k_seq ?_
 refine k_region ?_
 refine l_slit (R := (RI .u32)) (xs := ([] : List Int)) (RI.one _) m T59 f rfl rfl rfl (by decide) (All2.nil _) (fun it_1 v_2 w a m o_3 f => ?_)
 refine l_op f rfl rfl rfl (r_assign (f.eval rfl)) (fun a f => ?_)
 refine l_op f rfl rfl rfl (r_assign (f.eval rfl)) (fun a f => ?_)
 refine l_nil ?_
 refine k_seq ?_
 refine k_seq ?_
 refine k_region ?_
 refine l_op f rfl rfl rfl (r_move (f.eval rfl)) (fun a f => ?_)
 refine l_len Tryd.underlying63 f rfl rfl h1 (fun a f => ?_)
 refine l_op f rfl rfl rfl (r_move (f.eval rfl)) (fun a f => ?_)
 refine l_nil ?_
 obtain ⟨q_89, hl_90, hd⟩ := bind_some hd
 refine k_cut (fun a w => ∃ l_143 : List Int, l_143 = q_89 ∧ ∃ (G_142 : GH) (v_144 : Value) (it_145 : Itm), GLe G G_142 ∧ Fr a 31 [(5, v_144)] ∧ Mem W G_142 w (it_145 :: H) ∧ Ow (RI .u32) 66 G_142 it_145 v_144 l_143) ?_ ?_
 ·refine k_block ?_
  refine k_loop (fun s_93 a w => ∃ l_96 : List Int, ∃ x_101 : Int, ∃ x_102 : Int, (l_96, x_101, x_102) = s_93 ∧ ∃ (G_95 : GH) (v_97 : Value) (it_98 : Itm), GLe G G_95 ∧ Fr a 31 [(0, v0), (5, v_97), (6, (.int .u32 x_101)), (10, v1), (11, (.int .i64 (x1.length : Int))), (12, (.int .i64 x_102))] ∧ Mem W G_95 w (it_98 :: H) ∧ Ow (RI .u32) 66 G_95 it_98 v_97 l_96) hl_90 ⟨_, _, _, rfl, _, v_2, it_1, (GLe.refl _), f.weak ⟨rfl, rfl, rfl, rfl, rfl, rfl, trivial⟩, m, o_3⟩ ?_
  clear hl_90 f m
  rintro s_93 o_94 hs_91 hq_92 a w ⟨l_96, x_101, x_102, rfl, G_95, v_97, it_98, hl_103, f, m, o_99⟩
  have h0 := RSl.mono (RI.mono _) _ _ _ _ hl_103 h0
  have h1 := RSl.mono (RI.mono _) _ _ _ _ hl_103 h1
  refine k_seq ?_
  refine k_region ?_
  refine l_op f rfl rfl rfl (r_int (f.eval rfl) (f.eval rfl) b_lss) (fun a f => ?_)
  refine l_nil ?_
  refine k_seq ?_
  rcases cond_some hs_91 with ⟨hc_149, hs_91⟩ | ⟨hc_149, hs_91⟩
  ·refine k_true f rfl hc_149 ?_
   refine k_skip ?_
   refine k_seq ?_
   refine k_block ?_
   refine k_seq ?_
   refine k_region ?_
   obtain ⟨e_150, he_151, hs_91⟩ := bind_some hs_91
   refine l_at T63 f rfl rfl rfl h1 he_151 (fun p_152 c_153 a g_154 h_155 f => ?_)
   subst h_155
   refine l_loadAt m Pl3 f rfl rfl g_154 (fun a f => ?_)
   refine l_op f rfl rfl rfl (r_assign (f.eval rfl)) (fun a f => ?_)
   refine l_nil ?_
   refine k_seq ?_
   refine k_region ?_
   refine l_op f rfl rfl rfl (r_move (f.eval rfl)) (fun a f => ?_)
   refine l_op f rfl rfl rfl (r_move (f.eval rfl)) (fun a f => ?_)
   refine l_op f rfl rfl rfl (r_move (f.eval rfl)) (fun a f => ?_)
   obtain ⟨y_156, hy_157, hs_91⟩ := bind_some hs_91
   refine l_res f rfl rfl Tryd.call49 (Wk.impl_openOf hW m h0 hy_157) (fun v_161 G_158 Ho_162 w hl_159 m hQ_160 a f => ?_)
   obtain ⟨rfl, rfl⟩ := hQ_160
   have h0 := RSl.mono (RI.mono _) _ _ _ _ hl_159 h0
   have h1 := RSl.mono (RI.mono _) _ _ _ _ hl_159 h1
   have o_99 := Ow.mono (RI.mono _) hl_159 o_99
   have m : Mem W G_158 w (it_98 :: H) := m
   refine l_op f rfl rfl rfl (r_move (f.eval rfl)) (fun a f => ?_)
   obtain ⟨y_163, hy_164, hs_91⟩ := bind_some hs_91
   refine l_res f rfl rfl Tryd.call48 (Wk.impl_one m  hy_164) (fun v_168 G_165 Ho_169 w hl_166 m hQ_167 a f => ?_)
   obtain ⟨rfl, rfl⟩ := hQ_167
   have h0 := RSl.mono (RI.mono _) _ _ _ _ hl_166 h0
   have h1 := RSl.mono (RI.mono _) _ _ _ _ hl_166 h1
   have o_99 := Ow.mono (RI.mono _) hl_166 o_99
   have m : Mem W G_165 w (it_98 :: H) := m
   refine l_op f rfl rfl rfl (r_int (f.eval rfl) (f.eval rfl) b_or) (fun a f => ?_)
   refine l_slit (R := (RI .u32)) (xs := ([(ior .u32 y_156 y_163)] : List Int)) (RI.one _) m T59 f rfl rfl rfl (by decide) (All2.cons rfl (All2.nil _)) (fun it_170 v_171 w a m o_172 f => ?_)
   obtain ⟨l_174, hx_175, hs_91⟩ := bind_some hs_91
   refine l_append (RI.one _) 1 m o_99 rfl T59 rfl (by decide) f rfl rfl rfl (Ow.src (j := 0) o_172 m rfl) hx_175 (fun it_176 v_177 w a m o_178 f => ?_)
   have m : Mem W G_165 w (it_170 :: it_176 :: H) := m
   refine l_op f rfl rfl rfl (r_assign (f.eval rfl)) (fun a f => ?_)
   refine l_nil ?_
   refine k_region ?_
   refine l_op f rfl rfl rfl (r_move (f.eval rfl)) (fun a f => ?_)
   refine l_op f rfl rfl rfl (r_move (f.eval rfl)) (fun a f => ?_)
   obtain ⟨y_180, hy_181, hs_91⟩ := bind_some hs_91
   refine l_res f rfl rfl Tryd.call48 (Wk.impl_one m  hy_181) (fun v_185 G_182 Ho_186 w hl_183 m hQ_184 a f => ?_)
   obtain ⟨rfl, rfl⟩ := hQ_184
   have h0 := RSl.mono (RI.mono _) _ _ _ _ hl_183 h0
   have h1 := RSl.mono (RI.mono _) _ _ _ _ hl_183 h1
   have o_172 := Ow.mono (RI.mono _) hl_183 o_172
   have o_178 := Ow.mono (RI.mono _) hl_183 o_178
   have m : Mem W G_182 w (it_170 :: it_176 :: H) := m
   refine l_op f rfl rfl rfl (r_int (f.eval rfl) (f.eval rfl) b_or) (fun a f => ?_)
   refine l_op f rfl rfl rfl (r_assign (f.eval rfl)) (fun a f => ?_)
   refine l_nil ?_
   refine k_region ?_
   refine l_op f rfl rfl rfl (r_int (f.eval rfl) (f.eval rfl) b_add) (fun a f => ?_)
   refine l_op f rfl rfl rfl (r_move (f.eval rfl)) (fun a f => ?_)
   refine l_nil ?_
   have m : Mem W G_182 w (it_176 :: it_170 :: H) := m.front 1 rfl
   have m : Mem W G_182 w (it_176 :: H) := m.eraseAt 1
   obtain rfl := Option.some.inj hs_91
   exact ⟨_, rfl, _, _, _, rfl, _, v_177, it_176, (GLe.trans hl_103 (GLe.trans hl_159 (GLe.trans hl_166 hl_183))), f.weak ⟨rfl, rfl, rfl, rfl, rfl, rfl, trivial⟩, m, o_178⟩
  ·refine k_false f rfl hc_149 ?_
   refine k_exit rfl ?_
   obtain rfl := Option.some.inj hs_91
   obtain rfl := hq_92 _ rfl
   exact ⟨_, rfl, _, v_97, it_98, hl_103, f.weak ⟨rfl, trivial⟩, m, o_99⟩
 ·rintro a w ⟨l_143, rfl, G_142, v_144, it_145, hl_148, f, m, o_146⟩
  refine k_seq ?_
  refine k_region ?_
  refine l_op f rfl rfl rfl (r_move (f.eval rfl)) (fun a f => ?_)
  refine l_op f rfl rfl rfl (r_assign (f.eval rfl)) (fun a f => ?_)
  refine l_nil ?_
  refine k_ret ?_
  obtain rfl := Option.some.inj hd
  exact ⟨[v_144], ⟨f.get _ _ rfl, trivial⟩, f.defers, _, [it_145], hl_148, m, _, _, rfl, rfl, o_146⟩

theorem Wk.impl_wide {W w : World} {G : GH} {H : List Itm} {v0 : Value} {x0 : (List Int)} (m : Mem W G w (H)) (h0 : RSl (RI .i64) G v0 x0) {y : ((List Int))} (hd : D.impl_wide x0 = some y) :
  Calls Tryd.prog 63 #[v0] w (Res W G H (fun G' Ho v => ∃ r0 : Value, ∃ i0 : Itm, Ho = [i0] ∧ r0 = v ∧ Ow (RI .i64) 2 G' i0 r0 y)) := by
 refine calls_b (args := [v0]) (N := 21) [.tmp 2] Tryd.func63 rfl rfl (Nat.le_of_ble_eq_true rfl) rfl (fun a f => ?_)
 unfold D.impl_wide at hd
 refine k_seq ?_
 refine k_region ?_
 refine l_op f rfl rfl rfl (r_assign (f.eval rfl)) (fun a f => ?_)
 refine l_nil ?_
 refine k_seq ?_
 refine k_region ?_
 refine l_op f rfl rfl rfl (r_move (f.eval rfl)) (fun a f => ?_)
 refine l_len Tryd.underlying63 f rfl rfl h0 (fun a f => ?_)
 obtain ⟨l_1, hx_2, hd⟩ := bind_some hd
 refine l_make (R := (RI .i64)) m T31 rfl (by decide) rfl f rfl rfl rfl hx_2 (fun it_3 v_4 w a m o_5 f => ?_)
 refine l_op f rfl rfl rfl (r_assign (f.eval rfl)) (fun a f => ?_)
 refine l_nil ?_
 refine k_seq ?_
 refine k_seq ?_
 refine k_region ?_
 refine l_op f rfl rfl rfl (r_move (f.eval rfl)) (fun a f => ?_)
 refine l_len Tryd.underlying63 f rfl rfl h0 (fun a f => ?_)
 refine l_op f rfl rfl rfl (r_move (f.eval rfl)) (fun a f => ?_)
 refine l_nil ?_
 obtain ⟨q_48, hl_49, hd⟩ := bind_some hd
 refine k_cut (fun a w => ∃ l_80 : List Int, l_80 = q_48 ∧ ∃ (G_79 : GH) (v_81 : Value) (it_82 : Itm), GLe G G_79 ∧ Fr a 21 [(3, v_81)] ∧ Mem W G_79 w (it_82 :: H) ∧ Ow (RI .i64) 2 G_79 it_82 v_81 l_80) ?_ ?_
 ·refine k_block ?_
  refine k_loop (fun s_52 a w => ∃ l_55 : List Int, ∃ x_60 : Int, (l_55, x_60) = s_52 ∧ ∃ (G_54 : GH) (v_56 : Value) (it_57 : Itm), GLe G G_54 ∧ Fr a 21 [(3, v_56), (9, v0), (10, (.int .i64 (x0.length : Int))), (11, (.int .i64 x_60))] ∧ Mem W G_54 w (it_57 :: H) ∧ Ow (RI .i64) 2 G_54 it_57 v_56 l_55) hl_49 ⟨_, _, rfl, _, v_4, it_3, (GLe.refl _), f.weak ⟨rfl, rfl, rfl, rfl, trivial⟩, m, o_5⟩ ?_
  clear hl_49 f m
  rintro s_52 o_53 hs_50 hq_51 a w ⟨l_55, x_60, rfl, G_54, v_56, it_57, hl_61, f, m, o_58⟩
  have h0 := RSl.mono (RI.mono _) _ _ _ _ hl_61 h0
  refine k_seq ?_
  refine k_region ?_
  refine l_op f rfl rfl rfl (r_int (f.eval rfl) (f.eval rfl) b_lss) (fun a f => ?_)
  refine l_nil ?_
  refine k_seq ?_
  rcases cond_some hs_50 with ⟨hc_86, hs_50⟩ | ⟨hc_86, hs_50⟩
  ·refine k_true f rfl hc_86 ?_
   refine k_skip ?_
   refine k_seq ?_
   refine k_block ?_
   refine k_seq ?_
   refine k_region ?_
   obtain ⟨e_87, he_88, hs_50⟩ := bind_some hs_50
   refine l_at T63 f rfl rfl rfl h0 he_88 (fun p_89 c_90 a g_91 h_92 f => ?_)
   subst h_92
   refine l_loadAt m Pl3 f rfl rfl g_91 (fun a f => ?_)
   refine l_op f rfl rfl rfl (r_assign (f.eval rfl)) (fun a f => ?_)
   refine l_nil ?_
   refine k_region ?_
   refine l_op f rfl rfl rfl (r_move (f.eval rfl)) (fun a f => ?_)
   refine l_op f rfl rfl rfl (r_move (f.eval rfl)) (fun a f => ?_)
   refine l_slit (R := (RI .i64)) (xs := ([e_87] : List Int)) (RI.one _) m T31 f rfl rfl rfl (by decide) (All2.cons rfl (All2.nil _)) (fun it_93 v_94 w a m o_95 f => ?_)
   obtain ⟨l_97, hx_98, hs_50⟩ := bind_some hs_50
   refine l_append (RI.one _) 1 m o_58 rfl T31 rfl (by decide) f rfl rfl rfl (Ow.src (j := 0) o_95 m rfl) hx_98 (fun it_99 v_100 w a m o_101 f => ?_)
   have m : Mem W G_54 w (it_93 :: it_99 :: H) := m
   refine l_op f rfl rfl rfl (r_assign (f.eval rfl)) (fun a f => ?_)
   refine l_nil ?_
   refine k_region ?_
   refine l_op f rfl rfl rfl (r_int (f.eval rfl) (f.eval rfl) b_add) (fun a f => ?_)
   refine l_op f rfl rfl rfl (r_move (f.eval rfl)) (fun a f => ?_)
   refine l_nil ?_
   have m : Mem W G_54 w (it_99 :: it_93 :: H) := m.front 1 rfl
   have m : Mem W G_54 w (it_99 :: H) := m.eraseAt 1
   obtain rfl := Option.some.inj hs_50
   exact ⟨_, rfl, _, _, rfl, _, v_100, it_99, hl_61, f.weak ⟨rfl, rfl, rfl, rfl, trivial⟩, m, o_101⟩
  ·refine k_false f rfl hc_86 ?_
   refine k_exit rfl ?_
   obtain rfl := Option.some.inj hs_50
   obtain rfl := hq_51 _ rfl
   exact ⟨_, rfl, _, v_56, it_57, hl_61, f.weak ⟨rfl, trivial⟩, m, o_58⟩
 ·rintro a w ⟨l_80, rfl, G_79, v_81, it_82, hl_85, f, m, o_83⟩
  refine k_seq ?_
  refine k_region ?_
  refine l_op f rfl rfl rfl (r_move (f.eval rfl)) (fun a f => ?_)
  refine l_op f rfl rfl rfl (r_assign (f.eval rfl)) (fun a f => ?_)
  refine l_nil ?_
  refine k_ret ?_
  obtain rfl := Option.some.inj hd
  exact ⟨[v_81], ⟨f.get _ _ rfl, trivial⟩, f.defers, _, [it_82], hl_85, m, _, _, rfl, rfl, o_83⟩

theorem Wk.impl_vset_numbers {W w : World} {G : GH} {H : List Itm} {x0 : Int} (hW : TabW W) (m : Mem W G w (H))  {y : ((List Int))} (hd : D.impl_vset_numbers x0 = some y) :
  Calls Tryd.prog 100 #[(.int .u32 x0)] w (Res W G H (fun G' Ho v => ∃ r0 : Value, ∃ i0 : Itm, Ho = [i0] ∧ r0 = v ∧ Ow (RI .i64) 2 G' i0 r0 y)) := by
 refine calls_b (args := [(.int .u32 x0)]) (N := 6) [.tmp 2] Tryd.func100 rfl rfl (Nat.le_of_ble_eq_true rfl) rfl (fun a f => ?_)
 unfold D.impl_vset_numbers at hd
 refine k_seq ?_
 refine k_region ?_
 refine l_op f rfl rfl rfl (r_assign (f.eval rfl)) (fun a f => ?_)
 refine l_nil ?_
 refine k_seq ?_
 refine k_region ?_
 refine l_op f rfl rfl rfl (r_move (f.eval rfl)) (fun a f => ?_)
 obtain ⟨y_1, hy_2, hd⟩ := bind_some hd
 refine l_res f rfl rfl Tryd.call62 (Wk.impl_vset_list hW m  hy_2) (fun v_6 G_3 Ho_7 w hl_4 m hQ_5 a f => ?_)
 obtain ⟨v_8, it_9, rfl, rfl, o_10⟩ := hQ_5
 have m : Mem W G_3 w (it_9 :: H) := m
 obtain ⟨y_12, hy_13, hd⟩ := bind_some hd
 refine l_res f rfl rfl Tryd.call63 (Ow.lendCall (RI.mono _) 0 o_10 m rfl (fun G_14 hl_15 m h_16 => Wk.impl_wide m h_16 hy_13) (fun _ G' _ _ ⟨a0, a1, e1, e2, o0⟩ => ⟨a0, a1, e1, e2, Ow.free (RI.free _) G' o0⟩)) (fun v_20 G_17 Ho_21 w hl_18 m hQ_19 a f => ?_)
 obtain ⟨v_22, it_23, rfl, rfl, o_24⟩ := hQ_19
 have o_10 := Ow.mono (RI.mono _) hl_18 o_10
 have m : Mem W G_17 w (it_23 :: it_9 :: H) := m
 refine l_op f rfl rfl rfl (r_assign (f.eval rfl)) (fun a f => ?_)
 refine l_nil ?_
 refine k_ret ?_
 have m : Mem W G_17 w (it_23 :: H) := m.eraseAt 1
 obtain rfl := Option.some.inj hd
 exact ⟨[v_22], ⟨f.get _ _ rfl, trivial⟩, f.defers, _, [it_23], (GLe.trans hl_4 hl_18), m, _, _, rfl, rfl, o_24⟩

theorem Wk.impl_results {W w : World} {G : GH} {H : List Itm} {v0 : Value} {x0 : (List Int)} (hW : TabW W) (m : Mem W G w (H)) (h0 : RSl (RI .u32) G v0 x0) {y : ((List (List Int)))} (hd : D.impl_results x0 = some y) :
  Calls Tryd.prog 44 #[v0] w (Res W G H (fun G' Ho v => ∃ r0 : Value, ∃ i0 : Itm, Ho = [i0] ∧ r0 = v ∧ Ow2 (RI .i64) 31 2 G' i0 r0 y)) := by
 refine calls_b (args := [v0]) (N := 20) [.tmp 2] Tryd.func44 rfl rfl (Nat.le_of_ble_eq_true rfl) rfl (fun a f => ?_)
 unfold D.impl_results at hd
 refine k_seq ?_
 refine k_region ?_
 refine l_op f rfl rfl rfl (r_assign (f.eval rfl)) (fun a f => ?_)
 refine l_nil ?_
 refine k_seq ?_
 refine k_region ?_
 refine l_slit (R := RawS) (xs := []) RawS.one m T27 f rfl rfl rfl (by decide) (All2.nil _) (fun it_1 v_2 w a m o_3 f => ?_)
 obtain ⟨it_5, m, o_6⟩ := Ow2.of_empty (RI .i64) 2 m o_3
 refine l_op f rfl rfl rfl (r_assign (f.eval rfl)) (fun a f => ?_)
 refine l_nil ?_
 refine k_seq ?_
 refine k_seq ?_
 refine k_region ?_
 refine l_op f rfl rfl rfl (r_move (f.eval rfl)) (fun a f => ?_)
 refine l_len Tryd.underlying59 f rfl rfl h0 (fun a f => ?_)
 refine l_op f rfl rfl rfl (r_move (f.eval rfl)) (fun a f => ?_)
 refine l_nil ?_
 obtain ⟨q_70, hl_71, hd⟩ := bind_some hd
 refine k_cut (fun a w => ∃ l_113 : List (List Int), l_113 = q_70 ∧ ∃ (G_112 : GH) (v_114 : Value) (it_115 : Itm), GLe G G_112 ∧ Fr a 20 [(3, v_114)] ∧ Mem W G_112 w (it_115 :: H) ∧ Ow2 (RI .i64) 31 2 G_112 it_115 v_114 l_113) ?_ ?_
 ·refine k_block ?_
  refine k_loop (fun s_74 a w => ∃ l_77 : List (List Int), ∃ x_82 : Int, (l_77, x_82) = s_74 ∧ ∃ (G_76 : GH) (v_78 : Value) (it_79 : Itm), GLe G G_76 ∧ Fr a 20 [(3, v_78), (7, v0), (8, (.int .i64 (x0.length : Int))), (9, (.int .i64 x_82))] ∧ Mem W G_76 w (it_79 :: H) ∧ Ow2 (RI .i64) 31 2 G_76 it_79 v_78 l_77) hl_71 ⟨_, _, rfl, _, v_2, it_5, (GLe.refl _), f.weak ⟨rfl, rfl, rfl, rfl, trivial⟩, m, o_6⟩ ?_
  clear hl_71 f m
  rintro s_74 o_75 hs_72 hq_73 a w ⟨l_77, x_82, rfl, G_76, v_78, it_79, hl_83, f, m, o_80⟩
  have h0 := RSl.mono (RI.mono _) _ _ _ _ hl_83 h0
  refine k_seq ?_
  refine k_region ?_
  refine l_op f rfl rfl rfl (r_int (f.eval rfl) (f.eval rfl) b_lss) (fun a f => ?_)
  refine l_nil ?_
  refine k_seq ?_
  rcases cond_some hs_72 with ⟨hc_119, hs_72⟩ | ⟨hc_119, hs_72⟩
  ·refine k_true f rfl hc_119 ?_
   refine k_skip ?_
   refine k_seq ?_
   refine k_block ?_
   refine k_seq ?_
   refine k_region ?_
   obtain ⟨e_120, he_121, hs_72⟩ := bind_some hs_72
   refine l_at T59 f rfl rfl rfl h0 he_121 (fun p_122 c_123 a g_124 h_125 f => ?_)
   subst h_125
   refine l_loadAt m Pl66 f rfl rfl g_124 (fun a f => ?_)
   refine l_op f rfl rfl rfl (r_assign (f.eval rfl)) (fun a f => ?_)
   refine l_nil ?_
   refine k_region ?_
   refine l_op f rfl rfl rfl (r_move (f.eval rfl)) (fun a f => ?_)
   refine l_op f rfl rfl rfl (r_move (f.eval rfl)) (fun a f => ?_)
   obtain ⟨y_126, hy_127, hs_72⟩ := bind_some hs_72
   refine l_res f rfl rfl Tryd.call100 (Wk.impl_vset_numbers hW m  hy_127) (fun v_131 G_128 Ho_132 w hl_129 m hQ_130 a f => ?_)
   obtain ⟨v_133, it_134, rfl, rfl, o_135⟩ := hQ_130
   have h0 := RSl.mono (RI.mono _) _ _ _ _ hl_129 h0
   have o_80 := Ow2.mono (RI.mono _) hl_129 o_80
   have m : Mem W G_128 w (it_134 :: it_79 :: H) := m
   refine l_slit (R := RawS) (xs := [v_133]) RawS.one m T27 f rfl rfl rfl (by decide) (All2.cons ⟨rfl, Ow.one1 0 m o_135 rfl, Ow.cells 0 m o_135 rfl⟩ (All2.nil _)) (fun it_137 v_138 w a m o_139 f => ?_)
   have m : Mem W G_128 w (it_134 :: it_137 :: it_79 :: H) := m.front 1 rfl
   have m : Mem W G_128 w (it_79 :: it_134 :: it_137 :: H) := m.front 2 rfl
   obtain ⟨l_141, hx_142, hs_72⟩ := bind_some hs_72
   refine l_append2 m o_80 o_135 o_139 T27 rfl (by decide) f rfl rfl rfl hx_142 (fun it_143 v_144 w a m o_145 f => ?_)
   have m : Mem W G_128 w (it_143 :: H) := m
   refine l_op f rfl rfl rfl (r_assign (f.eval rfl)) (fun a f => ?_)
   refine l_nil ?_
   refine k_region ?_
   refine l_op f rfl rfl rfl (r_int (f.eval rfl) (f.eval rfl) b_add) (fun a f => ?_)
   refine l_op f rfl rfl rfl (r_move (f.eval rfl)) (fun a f => ?_)
   refine l_nil ?_
   obtain rfl := Option.some.inj hs_72
   exact ⟨_, rfl, _, _, rfl, _, v_144, it_143, (GLe.trans hl_83 hl_129), f.weak ⟨rfl, rfl, rfl, rfl, trivial⟩, m, o_145⟩
  ·refine k_false f rfl hc_119 ?_
   refine k_exit rfl ?_
   obtain rfl := Option.some.inj hs_72
   obtain rfl := hq_73 _ rfl
   exact ⟨_, rfl, _, v_78, it_79, hl_83, f.weak ⟨rfl, trivial⟩, m, o_80⟩
 ·rintro a w ⟨l_113, rfl, G_112, v_114, it_115, hl_118, f, m, o_116⟩
  refine k_seq ?_
  refine k_region ?_
  refine l_op f rfl rfl rfl (r_move (f.eval rfl)) (fun a f => ?_)
  refine l_op f rfl rfl rfl (r_assign (f.eval rfl)) (fun a f => ?_)
  refine l_nil ?_
  refine k_ret ?_
  obtain rfl := Option.some.inj hd
  exact ⟨[v_114], ⟨f.get _ _ rfl, trivial⟩, f.defers, _, [it_115], hl_118, m, _, _, rfl, rfl, o_116⟩

theorem Wk.impl_OrderOk {W w : World} {G : GH} {H : List Itm} {v0_0 : Value} {v1 : Value} {x0_0 : (List (List Int))} {x1 : (List Int)} (m : Mem W G w (H)) (h0_0 : RSl (RSl (RI .i64)) G v0_0 x0_0) (h1 : RSl (RI .i64) G v1 x1) {y : Bool} (hd : D.impl_OrderOk x0_0 x1 = some y) :
  Calls Tryd.prog 43 #[(.agg #[v0_0]), v1] w (Res W G H (fun _ Ho v => Ho = [] ∧ v = (.bool y))) := by
 refine calls_b (args := [(.agg #[v0_0]), v1]) (N := 25) [.tmp 4] Tryd.func43 rfl rfl (Nat.le_of_ble_eq_true rfl) rfl (fun a f => ?_)
 unfold D.impl_OrderOk at hd
 refine k_seq ?_
 refine k_region ?_
 refine l_box (cs := [v0_0]) m f rfl rfl rfl (fun b_2 w a m f => ?_)
 refine l_op f rfl rfl rfl (r_assign (f.eval rfl)) (fun a f => ?_)
 refine l_nil ?_
 refine k_seq ?_
 refine k_seq ?_
 refine k_region ?_
 refine l_boxAgg 0 0 (ds := [v0_0]) m Ag29 f rfl rfl rfl rfl rfl (fun a f => ?_)
 obtain ⟨y_3, hy_4, hd⟩ := bind_some hd
 refine l_res f rfl rfl Tryd.call55 (Wk.impl_GraphOk m h0_0 hy_4) (fun v_8 G_5 Ho_9 w hl_6 m hQ_7 a f => ?_)
 obtain ⟨rfl, rfl⟩ := hQ_7
 have h0_0 := RSl.mono (RSl.mono (RI.mono _)) _ _ _ _ hl_6 h0_0
 have h1 := RSl.mono (RI.mono _) _ _ _ _ hl_6 h1
 have m : Mem W G_5 w (Itm.box b_2 29 [v0_0] :: H) := m
 refine l_op f rfl rfl rfl (r_not (f.eval rfl)) (fun a f => ?_)
 refine l_op f rfl rfl rfl (r_move (f.eval rfl)) (fun a f => ?_)
 refine l_cut 7 (fun a w => ∃ G_11, GLe G_5 G_11 ∧ Mem W G_11 w (Itm.box b_2 29 [v0_0] :: H) ∧ Fr a 25 [(0, (.agg #[v0_0])), (1, v1), (2, (.pointer (some ⟨b_2, 0, none⟩))), (6, (.agg #[v0_0])), (7, (.bool y_3)), (8, (.bool (!y_3))), (9, (.bool (!y_3))), (16, (.bool ((!y_3) || ((x1.length : Int) != (x0_0.length : Int)))))]) ?_ ?_
 ·rcases Bool.eq_false_or_eq_true (!y_3) with hc_10 | hc_10
  ·refine l_not' f rfl rfl rfl hc_10 (fun a f => ?_)
   refine l_not' f rfl rfl rfl hc_10 (fun a f => ?_)
   refine l_not' f rfl rfl rfl hc_10 (fun a f => ?_)
   refine l_not' f rfl rfl rfl hc_10 (fun a f => ?_)
   refine l_not' f rfl rfl rfl hc_10 (fun a f => ?_)
   refine l_not' f rfl rfl rfl hc_10 (fun a f => ?_)
   refine l_op f rfl rfl rfl (r_pickT (f.eval rfl) hc_10 (f.eval rfl)) (fun a f => ?_)
   exact ⟨_, (GLe.refl _), m, f.weak ⟨rfl, rfl, rfl, rfl, rfl, rfl, rfl, by rw [hc_10]; rfl, trivial⟩⟩
  ·refine l_run f rfl rfl hc_10 ?_
   refine l_op f rfl rfl rfl (r_move (f.eval rfl)) (fun a f => ?_)
   refine l_run f rfl rfl hc_10 ?_
   refine l_len Tryd.underlying31 f rfl rfl h1 (fun a f => ?_)
   refine l_run f rfl rfl hc_10 ?_
   refine l_fieldAddr Tryd.underlying29 rfl Tryd.sizeOf27 (by decide) f rfl rfl (fun a f => ?_)
   refine l_run f rfl rfl hc_10 ?_
   refine l_boxCell 0 0 m Pl27 f rfl rfl rfl rfl (fun a f => ?_)
   refine l_run f rfl rfl hc_10 ?_
   refine l_len Tryd.underlying27 f rfl rfl h0_0 (fun a f => ?_)
   refine l_run f rfl rfl hc_10 ?_
   refine l_op f rfl rfl rfl (r_int (f.eval rfl) (f.eval rfl) b_neq) (fun a f => ?_)
   refine l_op f rfl rfl rfl (r_pickF (f.eval rfl) hc_10 (f.eval rfl)) (fun a f => ?_)
   exact ⟨_, (GLe.refl _), m, f.weak ⟨rfl, rfl, rfl, rfl, rfl, rfl, rfl, by rw [hc_10]; rfl, trivial⟩⟩
 ·rintro a w ⟨G_11, hl_12, m, f⟩
  have h0_0 := RSl.mono (RSl.mono (RI.mono _)) _ _ _ _ hl_12 h0_0
  have h1 := RSl.mono (RI.mono _) _ _ _ _ hl_12 h1
  refine l_nil ?_
  rcases cond_some hd with ⟨hc_13, hd⟩ | ⟨hc_13, hd⟩
  ·refine k_true f rfl hc_13 ?_
   refine k_seq ?_
   refine k_region ?_
   refine l_op f rfl rfl rfl (r_assign (f.eval rfl)) (fun a f => ?_)
   refine l_nil ?_
   refine k_ret ?_
   have m : Mem W G_11 w H := Mem.drop (H' := [Itm.box b_2 29 [v0_0]]) m
   obtain rfl := Option.some.inj hd
   exact ⟨[(.bool false)], ⟨f.get _ _ rfl, trivial⟩, f.defers, _, [], (GLe.trans hl_6 hl_12), m, rfl, rfl⟩
  ·refine k_false f rfl hc_13 ?_
   refine k_skip ?_
   refine k_seq ?_
   refine k_region ?_
   refine l_op f rfl rfl rfl (r_move (f.eval rfl)) (fun a f => ?_)
   refine l_res f rfl rfl Tryd.call74 (Wk.slices_Values_int64_int64 m h1) (fun v_16 G_17 Ho_20 w hl_18 m hQ_19 a f => ?_)
   obtain ⟨b_14, rfl, rfl⟩ := hQ_19
   have h0_0 := RSl.mono (RSl.mono (RI.mono _)) _ _ _ _ hl_18 h0_0
   have h1 := RSl.mono (RI.mono _) _ _ _ _ hl_18 h1
   have m : Mem W G_17 w (Itm.box b_14 31 [v1] :: Itm.box b_2 29 [v0_0] :: H) := m
   obtain ⟨y_21, hy_22, hd⟩ := bind_some hd
   refine l_res f rfl rfl Tryd.call73 (Wk.slices_Sorted_int64 m h1 hy_22) (fun v_26 G_23 Ho_27 w hl_24 m hQ_25 a f => ?_)
   obtain ⟨v_31, it_28, rfl, rfl, o_29⟩ := hQ_25
   have h0_0 := RSl.mono (RSl.mono (RI.mono _)) _ _ _ _ hl_24 h0_0
   have h1 := RSl.mono (RI.mono _) _ _ _ _ hl_24 h1
   have m : Mem W G_23 w (it_28 :: Itm.box b_2 29 [v0_0] :: H) := m
   refine l_op f rfl rfl rfl (r_assign (f.eval rfl)) (fun a f => ?_)
   refine l_nil ?_
   refine k_seq ?_
   refine k_region ?_
   refine l_op f rfl rfl rfl (r_move (f.eval rfl)) (fun a f => ?_)
   refine l_fieldAddr Tryd.underlying29 rfl Tryd.sizeOf27 (by decide) f rfl rfl (fun a f => ?_)
   refine l_boxCell 1 0 m Pl27 f rfl rfl rfl rfl (fun a f => ?_)
   refine l_len Tryd.underlying27 f rfl rfl h0_0 (fun a f => ?_)
   obtain ⟨y_32, hy_33, hd⟩ := bind_some hd
   refine l_res f rfl rfl Tryd.call56 (Ow.lendCall (RI.mono _) 0 o_29 m rfl (fun G_34 hl_35 m h_36 => Wk.impl_increasing m h_36 hy_33) (fun _ _ _ _ h => h)) (fun v_40 G_37 Ho_41 w hl_38 m hQ_39 a f => ?_)
   obtain ⟨rfl, rfl⟩ := hQ_39
   have h0_0 := RSl.mono (RSl.mono (RI.mono _)) _ _ _ _ hl_38 h0_0
   have h1 := RSl.mono (RI.mono _) _ _ _ _ hl_38 h1
   have o_29 := Ow.mono (RI.mono _) hl_38 o_29
   have m : Mem W G_37 w (it_28 :: Itm.box b_2 29 [v0_0] :: H) := m
   refine l_op f rfl rfl rfl (r_assign (f.eval rfl)) (fun a f => ?_)
   refine l_nil ?_
   refine k_ret ?_
   have m : Mem W G_37 w H := Mem.drop (H' := [it_28, Itm.box b_2 29 [v0_0]]) m
   obtain rfl := Option.some.inj hd
   exact ⟨[(.bool y_32)], ⟨f.get _ _ rfl, trivial⟩, f.defers, _, [], (GLe.trans hl_6 (GLe.trans hl_12 (GLe.trans hl_18 (GLe.trans hl_24 hl_38)))), m, rfl, rfl⟩

theorem Wk.impl_PathBags {W w : World} {G : GH} {H : List Itm} {v0_0 : Value} {v1 : Value} {x0_0 : (List (List Int))} {x1 : (List Int)} (hW : TabW W) (m : Mem W G w (H)) (h0_0 : RSl (RSl (RI .i64)) G v0_0 x0_0) (h1 : RSl (RI .i64) G v1 x1) {y : ((List (List Int)))} (hd : D.impl_PathBags x0_0 x1 = some y) :
  Calls Tryd.prog 10 #[(.agg #[v0_0]), v1] w (Res W G H (fun G' Ho v => ∃ r0 : Value, ∃ i0 : Itm, Ho = [i0] ∧ r0 = v ∧ Ow2 (RI .i64) 31 2 G' i0 r0 y)) := by
 refine calls_b (args := [(.agg #[v0_0]), v1]) (N := 15) [.tmp 4] Tryd.func10 rfl rfl (Nat.le_of_ble_eq_true rfl) rfl (fun a f => ?_)
 unfold D.impl_PathBags at hd
 refine k_seq ?_
 refine k_region ?_
 refine l_box (cs := [v0_0]) m f rfl rfl rfl (fun b_2 w a m f => ?_)
 refine l_op f rfl rfl rfl (r_assign (f.eval rfl)) (fun a f => ?_)
 refine l_nil ?_
 refine k_seq ?_
 refine k_seq ?_
 refine k_region ?_
 refine l_boxAgg 0 0 (ds := [v0_0]) m Ag29 f rfl rfl rfl rfl rfl (fun a f => ?_)
 refine l_op f rfl rfl rfl (r_move (f.eval rfl)) (fun a f => ?_)
 obtain ⟨y_3, hy_4, hd⟩ := bind_some hd
 refine l_res f rfl rfl Tryd.call43 (Wk.impl_OrderOk m h0_0 h1 hy_4) (fun v_8 G_5 Ho_9 w hl_6 m hQ_7 a f => ?_)
 obtain ⟨rfl, rfl⟩ := hQ_7
 have h0_0 := RSl.mono (RSl.mono (RI.mono _)) _ _ _ _ hl_6 h0_0
 have h1 := RSl.mono (RI.mono _) _ _ _ _ hl_6 h1
 have m : Mem W G_5 w (Itm.box b_2 29 [v0_0] :: H) := m
 refine l_op f rfl rfl rfl (r_not (f.eval rfl)) (fun a f => ?_)
 refine l_nil ?_
 rcases cond_some hd with ⟨hc_10, hd⟩ | ⟨hc_10, hd⟩
 ·refine k_true f rfl hc_10 ?_
  refine k_seq ?_
  refine k_region ?_
  refine l_op f rfl rfl rfl (r_assign (f.eval rfl)) (fun a f => ?_)
  refine l_nil ?_
  refine k_ret ?_
  obtain ⟨it_11, m, o_12⟩ := Ow2.nil (RI .i64) 31 2 m
  have m : Mem W G_5 w (it_11 :: Itm.box b_2 29 [v0_0] :: H) := m
  have m : Mem W G_5 w (it_11 :: H) := m.eraseAt 1
  obtain rfl := Option.some.inj hd
  exact ⟨[(.slice none 0 0)], ⟨f.get _ _ rfl, trivial⟩, f.defers, _, [it_11], hl_6, m, _, _, rfl, rfl, o_12⟩
 ·refine k_false f rfl hc_10 ?_
  refine k_skip ?_
  refine k_seq ?_
  refine k_region ?_
  refine l_boxAgg 0 0 (ds := [v0_0]) m Ag29 f rfl rfl rfl rfl rfl (fun a f => ?_)
  obtain ⟨y_14, hy_15, hd⟩ := bind_some hd
  refine l_res f rfl rfl Tryd.call46 (Wk.impl_netsOf m h0_0 hy_15) (fun v_19 G_16 Ho_20 w hl_17 m hQ_18 a f => ?_)
  obtain ⟨v_21, it_22, rfl, rfl, o_23⟩ := hQ_18
  have h0_0 := RSl.mono (RSl.mono (RI.mono _)) _ _ _ _ hl_17 h0_0
  have h1 := RSl.mono (RI.mono _) _ _ _ _ hl_17 h1
  have m : Mem W G_16 w (it_22 :: Itm.box b_2 29 [v0_0] :: H) := m
  refine l_op f rfl rfl rfl (r_move (f.eval rfl)) (fun a f => ?_)
  obtain ⟨y_25, hy_26, hd⟩ := bind_some hd
  refine l_res f rfl rfl Tryd.call47 (Wk.impl_narrow m h1 hy_26) (fun v_30 G_27 Ho_31 w hl_28 m hQ_29 a f => ?_)
  obtain ⟨v_32, it_33, rfl, rfl, o_34⟩ := hQ_29
  have h0_0 := RSl.mono (RSl.mono (RI.mono _)) _ _ _ _ hl_28 h0_0
  have h1 := RSl.mono (RI.mono _) _ _ _ _ hl_28 h1
  have o_23 := Ow.mono (RI.mono _) hl_28 o_23
  have m : Mem W G_27 w (it_33 :: it_22 :: Itm.box b_2 29 [v0_0] :: H) := m
  obtain ⟨y_36, hy_37, hd⟩ := bind_some hd
  refine l_res f rfl rfl Tryd.call45 (Ow.lendCall (RI.mono _) 1 o_23 m rfl (fun G_38 hl_39 m h_40 => (Ow.lendCall (RI.mono _) 0 (Ow.mono (RI.mono _) hl_39 o_34) m rfl (fun G_41 hl_42 m h_43 => Wk.impl_pathBags hW m (RSl.mono (RI.mono _) _ _ _ _ hl_42 h_40) h_43 hy_37) (fun _ G' _ _ ⟨a0, a1, e1, e2, o0⟩ => ⟨a0, a1, e1, e2, Ow.free (RI.free _) G' o0⟩))) (fun _ G' _ _ ⟨a0, a1, e1, e2, o0⟩ => ⟨a0, a1, e1, e2, Ow.free (RI.free _) G' o0⟩)) (fun v_47 G_44 Ho_48 w hl_45 m hQ_46 a f => ?_)
  obtain ⟨v_49, it_50, rfl, rfl, o_51⟩ := hQ_46
  have h0_0 := RSl.mono (RSl.mono (RI.mono _)) _ _ _ _ hl_45 h0_0
  have h1 := RSl.mono (RI.mono _) _ _ _ _ hl_45 h1
  have o_34 := Ow.mono (RI.mono _) hl_45 o_34
  have o_23 := Ow.mono (RI.mono _) hl_45 o_23
  have m : Mem W G_44 w (it_50 :: it_33 :: it_22 :: Itm.box b_2 29 [v0_0] :: H) := m
  obtain ⟨y_53, hy_54, hd⟩ := bind_some hd
  refine l_res f rfl rfl Tryd.call44 (Ow.lendCall (RI.mono _) 0 o_51 m rfl (fun G_55 hl_56 m h_57 => Wk.impl_results hW m h_57 hy_54) (fun _ G' _ _ ⟨a0, a1, e1, e2, o0⟩ => ⟨a0, a1, e1, e2, Ow2.free (RI.free _) G' o0⟩)) (fun v_61 G_58 Ho_62 w hl_59 m hQ_60 a f => ?_)
  obtain ⟨v_63, it_64, rfl, rfl, o_65⟩ := hQ_60
  have h0_0 := RSl.mono (RSl.mono (RI.mono _)) _ _ _ _ hl_59 h0_0
  have h1 := RSl.mono (RI.mono _) _ _ _ _ hl_59 h1
  have o_51 := Ow.mono (RI.mono _) hl_59 o_51
  have o_34 := Ow.mono (RI.mono _) hl_59 o_34
  have o_23 := Ow.mono (RI.mono _) hl_59 o_23
  have m : Mem W G_58 w (it_64 :: it_50 :: it_33 :: it_22 :: Itm.box b_2 29 [v0_0] :: H) := m
  refine l_op f rfl rfl rfl (r_assign (f.eval rfl)) (fun a f => ?_)
  refine l_nil ?_
  refine k_ret ?_
  have m : Mem W G_58 w (it_64 :: it_50 :: it_33 :: it_22 :: H) := m.eraseAt 4
  have m : Mem W G_58 w (it_64 :: it_50 :: it_33 :: H) := m.eraseAt 3
  have m : Mem W G_58 w (it_64 :: it_50 :: H) := m.eraseAt 2
  have m : Mem W G_58 w (it_64 :: H) := m.eraseAt 1
  obtain rfl := Option.some.inj hd
  exact ⟨[v_63], ⟨f.get _ _ rfl, trivial⟩, f.defers, _, [it_64], (GLe.trans hl_6 (GLe.trans hl_17 (GLe.trans hl_28 (GLe.trans hl_45 hl_59)))), m, _, _, rfl, rfl, o_65⟩

end Go.Proofs.YtehnblgkgaakeaaDoor
