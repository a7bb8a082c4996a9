/- Parts of the proof: KBW. -/
import Derived.Test.YtehnblgkgaakeaaDoorGr3
import Derived.Test.YtehnblgkgaakeaaDoorProg
import Derived.KernelRfl
set_option linter.unusedVariables false
set_option linter.unusedSimpArgs false
set_option linter.unusedSectionVars false
set_option maxRecDepth 100000
namespace Go.Proofs.YtehnblgkgaakeaaDoor
open Go Go.Sx
theorem Ag83 : Agg Tryd.prog 83 3 := ⟨Tryd.isAgg83, Tryd.sizeOf83⟩
theorem T44 : SlT Tryd.prog 44 83 3 24 (.agg #[(.int .i64 0), (.int .i64 0), (.int .i64 0)]) := ⟨Tryd.underlying44, Tryd.t83, by kernel_rfl, by kernel_rfl, by kernel_rfl, by kernel_rfl⟩
theorem Ag89 : Agg Tryd.prog 89 3 := ⟨Tryd.isAgg89, Tryd.sizeOf89⟩
theorem T40 : SlT Tryd.prog 40 89 3 24 (.agg #[(.int .i64 0), (.int .i64 0), (.int .i64 0)]) := ⟨Tryd.underlying40, Tryd.t89, by kernel_rfl, by kernel_rfl, by kernel_rfl, by kernel_rfl⟩
theorem Pl31 : Plain Tryd.prog 31 := Tryd.isAgg31
theorem T27 : SlT Tryd.prog 27 31 1 24 (.slice none 0 0) := ⟨Tryd.underlying27, Tryd.t31, by kernel_rfl, by kernel_rfl, by kernel_rfl, by kernel_rfl⟩
theorem Pl27 : Plain Tryd.prog 27 := Tryd.isAgg27
theorem Ag29 : Agg Tryd.prog 29 1 := ⟨Tryd.isAgg29, Tryd.sizeOf29⟩

theorem Wk.laws_szPruneS {W w : World} {G : GH} {H : List Itm} {v0 : Value} {x0 : (List (Int × Int × Int))} {x1 : Int} (m : Mem W G w (H)) (h0 : RSr P3 G v0 x0) {y : Int} (hd : D.laws_szPruneS x0 x1 = some y) :
  Calls Tryd.prog 19 #[v0, (.int .i64 x1)] w (Res W G H (fun _ Ho v => Ho = [] ∧ v = (.int .i64 y))) := by
 refine calls_b (args := [v0, (.int .i64 x1)]) (N := 12) [.tmp 4] Tryd.func19 rfl rfl (Nat.le_of_ble_eq_true rfl) rfl fun a f => ?_
 unfold D.laws_szPruneS at hd
 refine k_seq (k_region ?_)
 refine l_as f rfl rfl fun a f => ?_
 refine l_nil (k_seq (k_region ?_))
 refine l_mv f rfl rfl fun a f => ?_
 refine l_mv f rfl rfl fun a f => ?_
 refine l_lenR Tryd.underlying40 f rfl rfl h0 fun a f => ?_
 refine l_in f rfl rfl rfl b_sub fun a f => ?_
 refine l_as f rfl rfl fun a f => ?_
 refine l_nil (k_seq (k_seq (k_region ?_)))
 refine l_mv f rfl rfl fun a f => ?_
 refine l_in f rfl rfl rfl b_lss fun a f => ?_
 refine l_nil ?_
 rcases cond_some hd with ⟨hc_1, hd⟩ | ⟨hc_1, hd⟩
 ·refine k_true f rfl hc_1 ?_
  refine k_seq (k_region ?_)
  refine l_as f rfl rfl fun a f => ?_
  refine l_nil ?_
  refine k_ret ?_
  obtain rfl := sj hd
  exact ⟨[(.int .i64 (-1))], ⟨f.get _ _ rfl, trivial⟩, f.defers, _, [], (GLe.refl _), m, rfl, rfl⟩
 ·refine k_false f rfl hc_1 ?_
  refine k_skip ?_
  refine k_seq (k_region ?_)
  refine l_mv f rfl rfl fun a f => ?_
  refine l_as f rfl rfl fun a f => ?_
  refine l_nil ?_
  refine k_ret ?_
  obtain rfl := sj hd
  exact ⟨[(.int .i64 (IntKind.i64.wrap (x1 - (x0.length : Int))))], ⟨f.get _ _ rfl, trivial⟩, f.defers, _, [], (GLe.refl _), m, rfl, rfl⟩

theorem Wk.laws_toPrune {W w : World} {G : GH} {H : List Itm} {x0_0 : Int} {x0_1 : Int} {x0_2 : Int} (m : Mem W G w (H))  {y : Int × Int × Int} (hd : D.laws_toPrune x0_0 x0_1 x0_2 = some y) :
  Calls Tryd.prog 72 #[(.agg #[(.int .i64 x0_0), (.int .i64 x0_1), (.int .i64 x0_2)])] w (Res W G H (fun _ Ho v => Ho = [] ∧ v = (.agg #[(.int .i64 y.1), (.int .i64 y.2.1), (.int .i64 y.2.2)]))) := by
 refine calls_b (args := [(.agg #[(.int .i64 x0_0), (.int .i64 x0_1), (.int .i64 x0_2)])]) (N := 14) [.cell 2 83] Tryd.func72 rfl rfl (Nat.le_of_ble_eq_true rfl) rfl fun a f => ?_
 unfold D.laws_toPrune at hd
 refine k_seq (k_region ?_)
 refine l_box (cs := [(.int .i64 x0_0), (.int .i64 x0_1), (.int .i64 x0_2)]) m f rfl rfl rfl fun b_2 w a m f => ?_
 refine l_alloc (cs := [(.int .i64 0), (.int .i64 0), (.int .i64 0)]) Tryd.zeroValue83 m f rfl rfl fun b_4 w a m f => ?_
 refine l_nil (k_seq (k_region ?_))
 refine l_alloc (cs := [(.int .i64 0), (.int .i64 0), (.int .i64 0)]) Tryd.zeroValue83 m f rfl rfl fun b_6 w a m f => ?_
 refine l_nil (k_seq (k_region ?_))
 refine l_fieldAddr Tryd.underlying89 rfl Tryd.sizeOf2 (by decide) f rfl rfl fun a f => ?_
 refine l_boxCell 2 0 m Pl2 f rfl rfl rfl rfl fun a f => ?_
 refine l_fieldAddr Tryd.underlying83 rfl Tryd.sizeOf2 (by decide) f rfl rfl fun a f => ?_
 refine l_boxStore 0 0 (ds := [(.int .i64 x0_0)]) m Tryd.sizeOf2 f rfl rfl rfl (ones_cons rfl ones_nil) rfl (Nat.le_of_ble_eq_true rfl) rfl fun w m => ?_
 refine l_nil (k_seq (k_region ?_))
 refine l_fieldAddr Tryd.underlying89 rfl Tryd.sizeOf2 (by decide) f rfl rfl fun a f => ?_
 refine l_boxCell 2 1 m Pl2 f rfl rfl rfl rfl fun a f => ?_
 refine l_fieldAddr Tryd.underlying83 rfl Tryd.sizeOf2 (by decide) f rfl rfl fun a f => ?_
 refine l_boxStore 0 1 (ds := [(.int .i64 x0_1)]) m Tryd.sizeOf2 f rfl rfl rfl (ones_cons rfl ones_nil) rfl (Nat.le_of_ble_eq_true rfl) rfl fun w m => ?_
 refine l_nil (k_seq (k_region ?_))
 refine l_fieldAddr Tryd.underlying89 rfl Tryd.sizeOf2 (by decide) f rfl rfl fun a f => ?_
 refine l_boxCell 2 2 m Pl2 f rfl rfl rfl rfl fun a f => ?_
 refine l_fieldAddr Tryd.underlying83 rfl Tryd.sizeOf2 (by decide) f rfl rfl fun a f => ?_
 refine l_boxStore 0 2 (ds := [(.int .i64 x0_2)]) m Tryd.sizeOf2 f rfl rfl rfl (ones_cons rfl ones_nil) rfl (Nat.le_of_ble_eq_true rfl) rfl fun w m => ?_
 refine l_nil (k_seq (k_region ?_))
 refine l_boxAgg 0 0 (ds := [(.int .i64 x0_0), (.int .i64 x0_1), (.int .i64 x0_2)]) m Ag83 f rfl rfl rfl rfl rfl fun a f => ?_
 refine l_boxStore 1 0 (ds := [(.int .i64 x0_0), (.int .i64 x0_1), (.int .i64 x0_2)]) m Tryd.sizeOf83 f rfl rfl rfl (ones_cons rfl (ones_cons rfl (ones_cons rfl ones_nil))) rfl (Nat.le_of_ble_eq_true rfl) rfl fun w m => ?_
 refine l_nil ?_
 refine k_ret ?_
 have rc_7 := rr_agg (P := Tryd.prog) 1 m Ag83 f (s := 2) rfl rfl rfl
 have m : Mem W G w H := Mem.drop (H' := [Itm.box b_6 83 [(.int .i64 x0_0), (.int .i64 x0_1), (.int .i64 x0_2)], Itm.box b_4 83 [(.int .i64 x0_0), (.int .i64 x0_1), (.int .i64 x0_2)], Itm.box b_2 89 [(.int .i64 x0_0), (.int .i64 x0_1), (.int .i64 x0_2)]]) m
 obtain rfl := sj hd
 exact ⟨[(.agg #[(.int .i64 x0_0), (.int .i64 x0_1), (.int .i64 x0_2)])], ⟨rc_7, trivial⟩, f.defers, _, [], (GLe.refl _), m, rfl, rfl⟩

theorem Wk.laws_toPruneS {W w : World} {G : GH} {H : List Itm} {v0 : Value} {x0 : (List (Int × Int × Int))} (m : Mem W G w (H)) (h0 : RSr P3 G v0 x0) {y : ((List (Int × Int × Int)))} (hd : D.laws_toPruneS x0 = some y) :
  Calls Tryd.prog 21 #[v0] w (Res W G H (fun G' Ho v => ∃ r0 : Value, ∃ i0 : Itm, Ho = [i0] ∧ r0 = v ∧ OwR P3 83 G' i0 r0 y)) := by
 refine calls_b (args := [v0]) (N := 23) [.tmp 2] Tryd.func21 rfl rfl (Nat.le_of_ble_eq_true rfl) rfl fun a f => ?_
 unfold D.laws_toPruneS at hd
 refine k_seq (k_region ?_)
 refine l_as f rfl rfl fun a f => ?_
 refine l_nil (k_seq (k_region ?_))
 refine l_mv f rfl rfl fun a f => ?_
 refine l_lenR Tryd.underlying40 f rfl rfl h0 fun a f => ?_
 obtain ⟨l_1, hx_2, hd⟩ := bind_some hd
 refine l_makeR (E := P3) (zz := ((0, 0, 0) : (Int × Int × Int))) m T44 rfl (by decide) f rfl rfl rfl hx_2 fun it_3 v_4 w a m o_5 f => ?_
 refine l_as f rfl rfl fun a f => ?_
 refine l_nil (k_seq (k_seq (k_region ?_)))
 refine l_as f rfl rfl fun a f => ?_
 refine l_nil ?_
 obtain ⟨q_48, hl_49, hd⟩ := bind_some hd
 refine k_cut (fun a w => ∃ l_79 : List (Int × Int × Int), l_79 = q_48 ∧ ∃ (G_78 : GH) (it_80 : Itm), GLe G G_78 ∧ Fr a 23 [(3, v_4)] ∧ Mem W G_78 w (it_80 :: H) ∧ OwR P3 83 G_78 it_80 v_4 l_79) ?_ ?_
 ·refine k_block ?_
  refine k_loop (fun s_52 a w => ∃ l_55 : List (Int × Int × Int), ∃ x_58 : Int, (l_55, x_58) = s_52 ∧ ∃ (G_54 : GH) (it_56 : Itm), GLe G G_54 ∧ Fr a 23 [(0, v0), (3, v_4), (4, (.int .i64 x_58))] ∧ Mem W G_54 w (it_56 :: H) ∧ OwR P3 83 G_54 it_56 v_4 l_55) hl_49 ⟨_, _, rfl, _, it_3, (GLe.refl _), f.weak ⟨rfl, rfl, rfl, trivial⟩, m, o_5⟩ ?_
  clear hl_49 f m
  rintro s_52 o_53 hs_50 hq_51 a w ⟨l_55, x_58, rfl, G_54, it_56, hl_59, f, m, o_57⟩
  have h0 := RSr.mono trivial _ _ _ _ hl_59 h0
  refine k_seq (k_seq (k_region ?_))
  refine l_mv f rfl rfl fun a f => ?_
  refine l_mv f rfl rfl fun a f => ?_
  refine l_lenR Tryd.underlying40 f rfl rfl h0 fun a f => ?_
  refine l_in f rfl rfl rfl b_lss fun a f => ?_
  refine l_nil ?_
  rcases cond_some hs_50 with ⟨hc_83, hs_50⟩ | ⟨hc_83, hs_50⟩
  ·refine k_true f rfl hc_83 ?_
   refine k_skip ?_
   refine k_seq (k_block (k_region ?_))
   refine l_mv f rfl rfl fun a f => ?_
   refine l_mv f rfl rfl fun a f => ?_
   refine l_mv f rfl rfl fun a f => ?_
   refine l_mv f rfl rfl fun a f => ?_
   obtain ⟨e_84, he_85, hs_50⟩ := bind_some hs_50
   refine l_atR (E := P3) T40 f rfl rfl rfl h0 he_85 fun p_86 a g_87 f => ?_
   refine l_loadR (E := P3) [(.int .i64 e_84.1), (.int .i64 e_84.2.1), (.int .i64 e_84.2.2)] m Ag89 f rfl rfl g_87 rfl fun a f => ?_
   obtain ⟨y_88, hy_89, hs_50⟩ := bind_some hs_50
   refine l_res f rfl rfl Tryd.call72 (Wk.laws_toPrune m  hy_89) fun v_93 G_90 Ho_94 w hl_91 m hQ_92 a f => ?_
   obtain ⟨rfl, rfl⟩ := hQ_92
   have h0 := RSr.mono trivial _ _ _ _ hl_91 h0
   have g_87 := AtR.mono hl_91 g_87
   have o_57 := OwR.mono trivial hl_91 o_57
   obtain ⟨e_95, he_96, hs_50⟩ := bind_some hs_50
   refine l_ownR_at 0 m o_57 rfl T44 f rfl rfl rfl he_96 fun p_97 a ha_98 f => ?_
   refine l_ownR_store (E := P3) (y' := (y_88.1, y_88.2.1, y_88.2.2)) [(.int .i64 y_88.1), (.int .i64 y_88.2.1), (.int .i64 y_88.2.2)] 0 m o_57 rfl Tryd.sizeOf83 f rfl rfl ha_98 he_96 rfl (ones_cons rfl (ones_cons rfl (ones_cons rfl ones_nil))) (Nat.le_of_ble_eq_true rfl) rfl fun it_99 w m o_100 => ?_
   refine l_nil (k_region ?_)
   refine l_mv f rfl rfl fun a f => ?_
   refine l_in f rfl rfl rfl b_add fun a f => ?_
   refine l_as f rfl rfl fun a f => ?_
   refine l_nil ?_
   obtain rfl := sj hs_50
   exact ⟨_, rfl, _, _, rfl, _, it_99, (GLe.trans hl_59 hl_91), f.weak ⟨rfl, rfl, rfl, trivial⟩, m, o_100⟩
  ·refine k_false f rfl hc_83 ?_
   refine k_exit rfl ?_
   obtain rfl := sj hs_50
   obtain rfl := hq_51 _ rfl
   exact ⟨_, rfl, _, it_56, hl_59, f.weak ⟨rfl, trivial⟩, m, o_57⟩
 ·rintro a w ⟨l_79, rfl, G_78, it_80, hl_82, f, m, o_81⟩
  refine k_seq (k_region ?_)
  refine l_mv f rfl rfl fun a f => ?_
  refine l_as f rfl rfl fun a f => ?_
  refine l_nil ?_
  refine k_ret ?_
  obtain rfl := sj hd
  exact ⟨[v_4], ⟨f.get _ _ rfl, trivial⟩, f.defers, _, [it_80], hl_82, m, _, _, rfl, rfl, o_81⟩

theorem Wk.spec_l1In {W w : World} {G : GH} {H : List Itm} {x0 : Int} {x1 : Int} {x2 : Int} (m : Mem W G w (H))  {y : Bool} (hd : D.spec_l1In x0 x1 x2 = some y) :
  Calls Tryd.prog 67 #[(.int .i64 x0), (.int .i64 x1), (.int .i64 x2)] w (Res W G H (fun _ Ho v => Ho = [] ∧ v = (.bool y))) := by
 refine calls_b (args := [(.int .i64 x0), (.int .i64 x1), (.int .i64 x2)]) (N := 15) [.tmp 6] Tryd.func67 rfl rfl (Nat.le_of_ble_eq_true rfl) rfl fun a f => ?_
 unfold D.spec_l1In at hd
 refine k_seq (k_region ?_)
 refine l_as f rfl rfl fun a f => ?_
 refine l_nil (k_seq (k_region ?_))
 refine l_mv f rfl rfl fun a f => ?_
 refine l_mv f rfl rfl fun a f => ?_
 refine l_in f rfl rfl rfl b_geq fun a f => ?_
 refine l_mv f rfl rfl fun a f => ?_
 refine l_cut 4 (fun a w => ∃ G_2, GLe G G_2 ∧ Mem W G_2 w (H) ∧ Fr a 15 [(0, (.int .i64 x0)), (1, (.int .i64 x1)), (2, (.int .i64 x2)), (7, (.int .i64 x0)), (8, (.int .i64 x1)), (9, (.bool (decide (x1 ≤ x0)))), (10, (.bool (decide (x1 ≤ x0)))), (14, (.bool ((decide (x1 ≤ x0)) && (decide (x0 ≤ x2)))))]) ?_ ?_
 ·rcases Bool.eq_false_or_eq_true (decide (x1 ≤ x0)) with hc_1 | hc_1
  ·refine l_run f rfl rfl hc_1 ?_
   refine l_mv f rfl rfl fun a f => ?_
   refine l_run f rfl rfl hc_1 ?_
   refine l_mv f rfl rfl fun a f => ?_
   refine l_run f rfl rfl hc_1 ?_
   refine l_in f rfl rfl rfl b_leq fun a f => ?_
   refine l_op f rfl rfl rfl (r_pickT (f.eval rfl) hc_1 (f.eval rfl)) fun a f => ?_
   exact ⟨_, (GLe.refl _), m, f.weak ⟨rfl, rfl, rfl, rfl, rfl, rfl, rfl, by rw [hc_1]; rfl, trivial⟩⟩
  ·refine l_not' f rfl rfl rfl hc_1 fun a f => ?_
   refine l_not' f rfl rfl rfl hc_1 fun a f => ?_
   refine l_not' f rfl rfl rfl hc_1 fun a f => ?_
   refine l_op f rfl rfl rfl (r_pickF (f.eval rfl) hc_1 (f.eval rfl)) fun a f => ?_
   exact ⟨_, (GLe.refl _), m, f.weak ⟨rfl, rfl, rfl, rfl, rfl, rfl, rfl, by rw [hc_1]; rfl, trivial⟩⟩
 ·rintro a w ⟨G_2, hl_3, m, f⟩
  refine l_as f rfl rfl fun a f => ?_
  refine l_nil ?_
  refine k_ret ?_
  obtain rfl := sj hd
  exact ⟨[(.bool ((decide (x1 ≤ x0)) && (decide (x0 ≤ x2))))], ⟨f.get _ _ rfl, trivial⟩, f.defers, _, [], hl_3, m, rfl, rfl⟩

theorem Wk.spec_l1Has {W w : World} {G : GH} {H : List Itm} {v0 : Value} {x0 : (List Int)} {x1 : Int} (m : Mem W G w (H)) (h0 : RSl (RI .i64) G v0 x0) {y : Bool} (hd : D.spec_l1Has x0 x1 = some y) :
  Calls Tryd.prog 68 #[v0, (.int .i64 x1)] w (Res W G H (fun _ Ho v => Ho = [] ∧ v = (.bool y))) := by
 refine calls_b (args := [v0, (.int .i64 x1)]) (N := 18) [.tmp 4] Tryd.func68 rfl rfl (Nat.le_of_ble_eq_true rfl) rfl fun a f => ?_
 unfold D.spec_l1Has at hd
 refine k_seq (k_region ?_)
 refine l_as f rfl rfl fun a f => ?_
 refine l_nil (k_seq (k_seq (k_region ?_)))
 refine l_as f rfl rfl fun a f => ?_
 refine l_nil ?_
 obtain ⟨q_19, hl_20, hd⟩ := bind_some hd
 refine k_cut (fun a w => ∃ q_19' : Unit, q_19 = .inl q_19' ∧ ∃ (G_36 : GH), GLe G G_36 ∧ Fr a 18 [] ∧ Mem W G_36 w (H)) ?_ ?_
 ·refine k_block ?_
  refine k_loop (fun s_23 a w => ∃ x_26 : Int, x_26 = s_23 ∧ ∃ (G_25 : GH), GLe G G_25 ∧ Fr a 18 [(0, v0), (1, (.int .i64 x1)), (5, (.int .i64 x_26))] ∧ Mem W G_25 w (H)) hl_20 ⟨_, rfl, _, (GLe.refl _), f.weak ⟨rfl, rfl, rfl, trivial⟩, m⟩ ?_
  clear hl_20 f m
  rintro s_23 o_24 hs_21 hq_22 a w ⟨x_26, rfl, G_25, hl_27, f, m⟩
  have h0 := RSl.mono (RI.mono _) _ _ _ _ hl_27 h0
  refine k_seq (k_seq (k_region ?_))
  refine l_mv f rfl rfl fun a f => ?_
  refine l_mv f rfl rfl fun a f => ?_
  refine l_len Tryd.underlying31 f rfl rfl h0 fun a f => ?_
  refine l_in f rfl rfl rfl b_lss fun a f => ?_
  refine l_nil ?_
  rcases cond_some hs_21 with ⟨hc_38, hs_21⟩ | ⟨hc_38, hs_21⟩
  ·refine k_true f rfl hc_38 ?_
   refine k_skip ?_
   refine k_seq (k_block (k_seq (k_region ?_)))
   refine l_mv f rfl rfl fun a f => ?_
   refine l_mv f rfl rfl fun a f => ?_
   obtain ⟨e_39, he_40, hs_21⟩ := bind_some hs_21
   refine l_at T31 f rfl rfl rfl h0 he_40 fun p_41 c_42 a g_43 h_44 f => ?_
   subst h_44
   refine l_loadAt m Pl2 f rfl rfl g_43 fun a f => ?_
   refine l_mv f rfl rfl fun a f => ?_
   refine l_in f rfl rfl rfl b_eql fun a f => ?_
   refine l_nil ?_
   rcases cond_some hs_21 with ⟨hc_45, hs_21⟩ | ⟨hc_45, hs_21⟩
   ·refine k_true f rfl hc_45 ?_
    refine k_seq (k_region ?_)
    refine l_as f rfl rfl fun a f => ?_
    refine l_nil ?_
    refine k_ret ?_
    obtain rfl := sj hs_21
    obtain rfl := hq_22 _ rfl
    obtain rfl := sj hd
    exact ⟨[(.bool true)], ⟨f.get _ _ rfl, trivial⟩, f.defers, _, [], hl_27, m, rfl, rfl⟩
   ·refine k_false f rfl hc_45 ?_
    refine k_skip ?_
    refine k_region ?_
    refine l_mv f rfl rfl fun a f => ?_
    refine l_in f rfl rfl rfl b_add fun a f => ?_
    refine l_as f rfl rfl fun a f => ?_
    refine l_nil ?_
    obtain rfl := sj hs_21
    exact ⟨_, rfl, _, rfl, _, hl_27, f.weak ⟨rfl, rfl, rfl, trivial⟩, m⟩
  ·refine k_false f rfl hc_38 ?_
   refine k_exit rfl ?_
   obtain rfl := sj hs_21
   obtain rfl := hq_22 _ rfl
   exact ⟨_, rfl, _, hl_27, f.weak trivial, m⟩
 ·rintro a w ⟨_, rfl, G_36, hl_37, f, m⟩
  refine k_seq (k_region ?_)
  refine l_as f rfl rfl fun a f => ?_
  refine l_nil ?_
  refine k_ret ?_
  obtain rfl := sj hd
  exact ⟨[(.bool false)], ⟨f.get _ _ rfl, trivial⟩, f.defers, _, [], hl_37, m, rfl, rfl⟩

theorem Wk.spec_l1Copy {W w : World} {G : GH} {H : List Itm} {v0 : Value} {x0 : (List Int)} (m : Mem W G w (H)) (h0 : RSl (RI .i64) G v0 x0) {y : ((List Int))} (hd : D.spec_l1Copy x0 = some y) :
  Calls Tryd.prog 106 #[v0] w (Res W G H (fun G' Ho v => ∃ r0 : Value, ∃ i0 : Itm, Ho = [i0] ∧ r0 = v ∧ Ow (RI .i64) 2 G' i0 r0 y)) := by
 refine calls_b (args := [v0]) (N := 6) [.tmp 2] Tryd.func106 rfl rfl (Nat.le_of_ble_eq_true rfl) rfl fun a f => ?_
 unfold D.spec_l1Copy at hd
 refine k_seq (k_region ?_)
 refine l_as f rfl rfl fun a f => ?_
 refine l_nil (k_seq (k_region ?_))
 refine l_slit (R := (RI .i64)) (xs := ([] : List Int)) (RI.one _) m T31 f rfl rfl rfl (by decide) (All2.nil _) fun it_1 v_2 w a m o_3 f => ?_
 refine l_mv f rfl rfl fun a f => ?_
 obtain ⟨l_5, hx_6, hd⟩ := bind_some hd
 refine l_append (RI.one _) 0 m o_3 rfl T31 rfl (by decide) f rfl rfl rfl (h0.src m) hx_6 fun it_7 v_8 w a m o_9 f => ?_
 refine l_as f rfl rfl fun a f => ?_
 refine l_nil ?_
 refine k_ret ?_
 obtain rfl := sj hd
 exact ⟨[v_8], ⟨f.get _ _ rfl, trivial⟩, f.defers, _, [it_7], (GLe.refl _), m, _, _, rfl, rfl, o_9⟩

theorem Wk.spec_l1Into {W w : World} {G : GH} {H : List Itm} {v0 : Value} {x0 : (List Int)} {x1 : Int} (m : Mem W G w (H)) (h0 : RSl (RI .i64) G v0 x0) {y : ((List Int))} (hd : D.spec_l1Into x0 x1 = some y) :
  Calls Tryd.prog 70 #[v0, (.int .i64 x1)] w (Res W G H (fun G' Ho v => ∃ r0 : Value, Ho = [] ∧ r0 = v ∧ RSl (RI .i64) G' r0 y)) := by
 refine calls_b (args := [v0, (.int .i64 x1)]) (N := 46) [.tmp 4] Tryd.func70 rfl rfl (Nat.le_of_ble_eq_true rfl) rfl fun a f => ?_
 unfold D.spec_l1Into at hd
 refine k_seq (k_region ?_)
 refine l_as f rfl rfl fun a f => ?_
 refine l_nil (k_seq (k_region ?_))
 refine l_as f rfl rfl fun a f => ?_
 refine l_nil (k_seq ?_)
 obtain ⟨q_51, hl_52, hd⟩ := bind_some hd
 refine k_cut (fun a w => ∃ x_85 : Int, x_85 = q_51 ∧ ∃ (G_84 : GH), GLe G G_84 ∧ Fr a 46 [(0, v0), (1, (.int .i64 x1)), (5, (.int .i64 x_85))] ∧ Mem W G_84 w (H)) ?_ ?_
 ·refine k_block ?_
  refine k_loop (fun s_55 a w => ∃ x_58 : Int, x_58 = s_55 ∧ ∃ (G_57 : GH), GLe G G_57 ∧ Fr a 46 [(0, v0), (1, (.int .i64 x1)), (5, (.int .i64 x_58))] ∧ Mem W G_57 w (H)) hl_52 ⟨_, rfl, _, (GLe.refl _), f.weak ⟨rfl, rfl, rfl, trivial⟩, m⟩ ?_
  clear hl_52 f m
  rintro s_55 o_56 hs_53 hq_54 a w ⟨x_58, rfl, G_57, hl_59, f, m⟩
  have h0 := RSl.mono (RI.mono _) _ _ _ _ hl_59 h0
  refine k_seq (k_seq (k_region ?_))
  refine l_mv f rfl rfl fun a f => ?_
  refine l_mv f rfl rfl fun a f => ?_
  refine l_len Tryd.underlying31 f rfl rfl h0 fun a f => ?_
  refine l_in f rfl rfl rfl b_lss fun a f => ?_
  refine l_mv f rfl rfl fun a f => ?_
  obtain ⟨b_102, hj_103, hs_53⟩ := bind_some hs_53
  refine l_cut 7 (fun a w => ∃ G_100, GLe G_57 G_100 ∧ Mem W G_100 w (H) ∧ Fr a 46 [(0, v0), (1, (.int .i64 x1)), (5, (.int .i64 x_58)), (7, (.int .i64 x_58)), (8, v0), (9, (.int .i64 (x0.length : Int))), (10, (.bool (decide (x_58 < (x0.length : Int))))), (11, (.bool (decide (x_58 < (x0.length : Int))))), (18, (.bool b_102))]) ?_ ?_
  ·rcases cond_some hj_103 with ⟨hc_87, hj_103⟩ | ⟨hc_87, hj_103⟩
   ·refine l_run f rfl rfl hc_87 ?_
    refine l_mv f rfl rfl fun a f => ?_
    refine l_run f rfl rfl hc_87 ?_
    refine l_mv f rfl rfl fun a f => ?_
    refine l_run f rfl rfl hc_87 ?_
    obtain ⟨e_104, he_105, hj_103⟩ := bind_some hj_103
    refine l_at T31 f rfl rfl rfl h0 he_105 fun p_106 c_107 a g_108 h_109 f => ?_
    subst h_109
    refine l_run f rfl rfl hc_87 ?_
    refine l_loadAt m Pl2 f rfl rfl g_108 fun a f => ?_
    refine l_run f rfl rfl hc_87 ?_
    refine l_mv f rfl rfl fun a f => ?_
    refine l_run f rfl rfl hc_87 ?_
    refine l_in f rfl rfl rfl b_lss fun a f => ?_
    refine l_op f rfl rfl rfl (r_pickT (f.eval rfl) hc_87 (f.eval rfl)) fun a f => ?_
    obtain rfl := sj hj_103
    exact ⟨_, (GLe.refl _), m, f.weak ⟨rfl, rfl, rfl, rfl, rfl, rfl, rfl, rfl, rfl, trivial⟩⟩
   ·refine l_not' f rfl rfl rfl hc_87 fun a f => ?_
    refine l_not' f rfl rfl rfl hc_87 fun a f => ?_
    refine l_not' f rfl rfl rfl hc_87 fun a f => ?_
    refine l_not' f rfl rfl rfl hc_87 fun a f => ?_
    refine l_not' f rfl rfl rfl hc_87 fun a f => ?_
    refine l_not' f rfl rfl rfl hc_87 fun a f => ?_
    refine l_op f rfl rfl rfl (r_pickF (f.eval rfl) hc_87 (f.eval rfl)) fun a f => ?_
    obtain rfl := sj hj_103
    exact ⟨_, (GLe.refl _), m, f.weak ⟨rfl, rfl, rfl, rfl, rfl, rfl, rfl, rfl, rfl, trivial⟩⟩
  ·rintro a w ⟨G_100, hl_101, m, f⟩
   have h0 := RSl.mono (RI.mono _) _ _ _ _ hl_101 h0
   refine l_nil ?_
   rcases cond_some hs_53 with ⟨hc_110, hs_53⟩ | ⟨hc_110, hs_53⟩
   ·refine k_true f rfl hc_110 ?_
    refine k_skip ?_
    refine k_block (k_region ?_)
    refine l_mv f rfl rfl fun a f => ?_
    refine l_in f rfl rfl rfl b_add fun a f => ?_
    refine l_as f rfl rfl fun a f => ?_
    refine l_nil ?_
    obtain rfl := sj hs_53
    exact ⟨_, rfl, _, rfl, _, (GLe.trans hl_59 hl_101), f.weak ⟨rfl, rfl, rfl, trivial⟩, m⟩
   ·refine k_false f rfl hc_110 ?_
    refine k_exit rfl ?_
    obtain rfl := sj hs_53
    obtain rfl := hq_54 _ rfl
    exact ⟨_, rfl, _, (GLe.trans hl_59 hl_101), f.weak ⟨rfl, rfl, rfl, trivial⟩, m⟩
 ·rintro a w ⟨x_85, rfl, G_84, hl_86, f, m⟩
  have h0 := RSl.mono (RI.mono _) _ _ _ _ hl_86 h0
  refine k_seq (k_seq (k_region ?_))
  refine l_mv f rfl rfl fun a f => ?_
  refine l_mv f rfl rfl fun a f => ?_
  refine l_len Tryd.underlying31 f rfl rfl h0 fun a f => ?_
  refine l_in f rfl rfl rfl b_lss fun a f => ?_
  refine l_mv f rfl rfl fun a f => ?_
  obtain ⟨b_126, hj_127, hd⟩ := bind_some hd
  refine l_cut 7 (fun a w => ∃ G_124, GLe G_84 G_124 ∧ Mem W G_124 w (H) ∧ Fr a 46 [(0, v0), (1, (.int .i64 x1)), (5, (.int .i64 x_85)), (21, (.int .i64 x_85)), (22, v0), (23, (.int .i64 (x0.length : Int))), (24, (.bool (decide (x_85 < (x0.length : Int))))), (25, (.bool (decide (x_85 < (x0.length : Int))))), (32, (.bool b_126))]) ?_ ?_
  ·rcases cond_some hj_127 with ⟨hc_111, hj_127⟩ | ⟨hc_111, hj_127⟩
   ·refine l_run f rfl rfl hc_111 ?_
    refine l_mv f rfl rfl fun a f => ?_
    refine l_run f rfl rfl hc_111 ?_
    refine l_mv f rfl rfl fun a f => ?_
    refine l_run f rfl rfl hc_111 ?_
    obtain ⟨e_128, he_129, hj_127⟩ := bind_some hj_127
    refine l_at T31 f rfl rfl rfl h0 he_129 fun p_130 c_131 a g_132 h_133 f => ?_
    subst h_133
    refine l_run f rfl rfl hc_111 ?_
    refine l_loadAt m Pl2 f rfl rfl g_132 fun a f => ?_
    refine l_run f rfl rfl hc_111 ?_
    refine l_mv f rfl rfl fun a f => ?_
    refine l_run f rfl rfl hc_111 ?_
    refine l_in f rfl rfl rfl b_eql fun a f => ?_
    refine l_op f rfl rfl rfl (r_pickT (f.eval rfl) hc_111 (f.eval rfl)) fun a f => ?_
    obtain rfl := sj hj_127
    exact ⟨_, (GLe.refl _), m, f.weak ⟨rfl, rfl, rfl, rfl, rfl, rfl, rfl, rfl, rfl, trivial⟩⟩
   ·refine l_not' f rfl rfl rfl hc_111 fun a f => ?_
    refine l_not' f rfl rfl rfl hc_111 fun a f => ?_
    refine l_not' f rfl rfl rfl hc_111 fun a f => ?_
    refine l_not' f rfl rfl rfl hc_111 fun a f => ?_
    refine l_not' f rfl rfl rfl hc_111 fun a f => ?_
    refine l_not' f rfl rfl rfl hc_111 fun a f => ?_
    refine l_op f rfl rfl rfl (r_pickF (f.eval rfl) hc_111 (f.eval rfl)) fun a f => ?_
    obtain rfl := sj hj_127
    exact ⟨_, (GLe.refl _), m, f.weak ⟨rfl, rfl, rfl, rfl, rfl, rfl, rfl, rfl, rfl, trivial⟩⟩
  ·rintro a w ⟨G_124, hl_125, m, f⟩
   have h0 := RSl.mono (RI.mono _) _ _ _ _ hl_125 h0
   refine l_nil ?_
   rcases cond_some hd with ⟨hc_134, hd⟩ | ⟨hc_134, hd⟩
   ·refine k_true f rfl hc_134 ?_
    refine k_seq (k_region ?_)
    refine l_mv f rfl rfl fun a f => ?_
    refine l_as f rfl rfl fun a f => ?_
    refine l_nil ?_
    refine k_ret ?_
    obtain rfl := sj hd
    exact ⟨[v0], ⟨f.get _ _ rfl, trivial⟩, f.defers, _, [], (GLe.trans hl_86 hl_125), m, _, rfl, rfl, h0⟩
   ·refine k_false f rfl hc_134 ?_
    refine k_skip ?_
    refine k_seq (k_region ?_)
    refine l_mv f rfl rfl fun a f => ?_
    refine l_mv f rfl rfl fun a f => ?_
    obtain ⟨l_135, hx_136, hd⟩ := bind_some hd
    refine l_slice T31 f rfl rfl h0 (.inl ⟨rfl, rfl⟩) (.inr ⟨_, _, rfl, rfl⟩) hx_136 fun v_137 a h_138 f => ?_
    obtain ⟨y_139, hy_140, hd⟩ := bind_some hd
    refine l_res f rfl rfl Tryd.call106 (Wk.spec_l1Copy m h_138 hy_140) fun v_144 G_141 Ho_145 w hl_142 m hQ_143 a f => ?_
    obtain ⟨v_146, it_147, rfl, rfl, o_148⟩ := hQ_143
    have h0 := RSl.mono (RI.mono _) _ _ _ _ hl_142 h0
    have h_138 := RSl.mono (RI.mono _) _ _ _ _ hl_142 h_138
    refine l_mv f rfl rfl fun a f => ?_
    refine l_slit (R := (RI .i64)) (xs := ([x1] : List Int)) (RI.one _) m T31 f rfl rfl rfl (by decide) (All2.cons rfl (All2.nil _)) fun it_150 v_151 w a m o_152 f => ?_
    obtain ⟨l_154, hx_155, hd⟩ := bind_some hd
    refine l_append (RI.one _) 1 m o_148 rfl T31 rfl (by decide) f rfl rfl rfl (Ow.src (j := 0) o_152 m rfl) hx_155 fun it_156 v_157 w a m o_158 f => ?_
    refine l_as f rfl rfl fun a f => ?_
    refine l_nil (k_seq (k_region ?_))
    refine l_mv f rfl rfl fun a f => ?_
    refine l_mv f rfl rfl fun a f => ?_
    refine l_mv f rfl rfl fun a f => ?_
    obtain ⟨l_160, hx_161, hd⟩ := bind_some hd
    refine l_slice T31 f rfl rfl h0 (.inr ⟨_, _, rfl, rfl⟩) (.inl ⟨rfl, rfl⟩) hx_161 fun v_162 a h_163 f => ?_
    obtain ⟨l_164, hx_165, hd⟩ := bind_some hd
    refine l_append (RI.one _) 1 m o_158 rfl T31 rfl (by decide) f rfl rfl rfl (h_163.src m) hx_165 fun it_166 v_167 w a m o_168 f => ?_
    refine l_as f rfl rfl fun a f => ?_
    refine l_nil ?_
    refine k_ret ?_
    have m := m.front 1 rfl
    obtain ⟨G_170, hl_171, m, h_172⟩ := Ow.stamp (RI.mono _) o_168 m
    have h0 := RSl.mono (RI.mono _) _ _ _ _ hl_171 h0
    have o_152 := Ow.mono (RI.mono _) hl_171 o_152
    have m : Mem W G_170 w H := Mem.drop (H' := [it_150]) m
    obtain rfl := sj hd
    exact ⟨[v_167], ⟨f.get _ _ rfl, trivial⟩, f.defers, _, [], (GLe.trans hl_86 (GLe.trans hl_125 (GLe.trans hl_142 hl_171))), m, _, rfl, rfl, h_172⟩

theorem Wk.spec_l18Grow {W w : World} {G : GH} {H : List Itm} {v0_0 : Value} {it0_0 : Itm} {x0_0 : (List (List Int))} {x1_0 : Int} {x1_1 : Int} {x1_2 : Int} (m : Mem W G w (it0_0 :: H)) (o0_0 : Ow (RSl (RI .i64)) 31 G it0_0 v0_0 x0_0) {y : ((List (List Int)))} (hd : D.spec_l18Grow x0_0 x1_0 x1_1 x1_2 = some y) :
  Calls Tryd.prog 69 #[(.agg #[v0_0]), (.agg #[(.int .i64 x1_0), (.int .i64 x1_1), (.int .i64 x1_2)])] w (Res W G H (fun G' Ho v => ∃ i0 : Itm, Ho = [i0] ∧ v = (.agg #[v0_0]) ∧ Ow (RSl (RI .i64)) 31 G' i0 v0_0 y)) := by
 refine calls_b (args := [(.agg #[v0_0]), (.agg #[(.int .i64 x1_0), (.int .i64 x1_1), (.int .i64 x1_2)])]) (N := 66) [.cell 4 29] Tryd.func69 rfl rfl (Nat.le_of_ble_eq_true rfl) rfl fun a f => ?_
 unfold D.spec_l18Grow at hd
 refine k_seq (k_region ?_)
 refine l_box (cs := [v0_0]) m f rfl rfl rfl fun b_2 w a m f => ?_
 refine l_box (cs := [(.int .i64 x1_0), (.int .i64 x1_1), (.int .i64 x1_2)]) m f rfl rfl rfl fun b_4 w a m f => ?_
 refine l_alloc (cs := [(.slice none 0 0)]) Tryd.zeroValue29 m f rfl rfl fun b_6 w a m f => ?_
 refine l_nil (k_seq (k_region ?_))
 refine l_slit (R := (RI .i64)) (xs := ([] : List Int)) (RI.one _) m T31 f rfl rfl rfl (by decide) (All2.nil _) fun it_7 v_8 w a m o_9 f => ?_
 refine l_as f rfl rfl fun a f => ?_
 refine l_nil (k_seq (k_seq (k_region ?_)))
 refine l_fieldAddr Tryd.underlying83 rfl Tryd.sizeOf2 (by decide) f rfl rfl fun a f => ?_
 refine l_boxCell 2 2 m Pl2 f rfl rfl rfl rfl fun a f => ?_
 refine l_in f rfl rfl rfl b_eql fun a f => ?_
 refine l_mv f rfl rfl fun a f => ?_
 refine l_cut 4 (fun a w => ∃ G_12, GLe G G_12 ∧ Mem W G_12 w (it_7 :: Itm.box b_6 29 [(.slice none 0 0)] :: Itm.box b_4 83 [(.int .i64 x1_0), (.int .i64 x1_1), (.int .i64 x1_2)] :: Itm.box b_2 29 [v0_0] :: it0_0 :: H) ∧ Fr a 66 [(0, (.agg #[v0_0])), (1, (.agg #[(.int .i64 x1_0), (.int .i64 x1_1), (.int .i64 x1_2)])), (2, (.pointer (some ⟨b_2, 0, none⟩))), (3, (.pointer (some ⟨b_4, 0, none⟩))), (4, (.pointer (some ⟨b_6, 0, none⟩))), (5, v_8), (8, (.pointer (some ⟨b_4, 2, none⟩))), (9, (.int .i64 x1_2)), (10, (.bool (x1_2 == 3))), (11, (.bool (x1_2 == 3))), (15, (.bool ((x1_2 == 3) || (x1_2 == 4))))]) ?_ ?_
 ·rcases Bool.eq_false_or_eq_true (x1_2 == 3) with hc_11 | hc_11
  ·refine l_not' f rfl rfl rfl hc_11 fun a f => ?_
   refine l_not' f rfl rfl rfl hc_11 fun a f => ?_
   refine l_not' f rfl rfl rfl hc_11 fun a f => ?_
   refine l_op f rfl rfl rfl (r_pickT (f.eval rfl) hc_11 (f.eval rfl)) fun a f => ?_
   have m := m.front 4 rfl
   have m := m.front 4 rfl
   have m := m.front 4 rfl
   have m := m.front 4 rfl
   have m := m.front 4 rfl
   exact ⟨_, (GLe.refl _), m, f.weak ⟨rfl, rfl, rfl, rfl, rfl, rfl, rfl, rfl, rfl, rfl, by rw [hc_11]; rfl, trivial⟩⟩
  ·refine l_run f rfl rfl hc_11 ?_
   refine l_fieldAddr Tryd.underlying83 rfl Tryd.sizeOf2 (by decide) f rfl rfl fun a f => ?_
   refine l_run f rfl rfl hc_11 ?_
   refine l_boxCell 2 2 m Pl2 f rfl rfl rfl rfl fun a f => ?_
   refine l_run f rfl rfl hc_11 ?_
   refine l_in f rfl rfl rfl b_eql fun a f => ?_
   refine l_op f rfl rfl rfl (r_pickF (f.eval rfl) hc_11 (f.eval rfl)) fun a f => ?_
   have m := m.front 4 rfl
   have m := m.front 4 rfl
   have m := m.front 4 rfl
   have m := m.front 4 rfl
   have m := m.front 4 rfl
   exact ⟨_, (GLe.refl _), m, f.weak ⟨rfl, rfl, rfl, rfl, rfl, rfl, rfl, rfl, rfl, rfl, by rw [hc_11]; rfl, trivial⟩⟩
 ·rintro a w ⟨G_12, hl_13, m, f⟩
  have o_9 := Ow.mono (RI.mono _) hl_13 o_9
  have o0_0 := Ow.mono (RSl.mono (RI.mono _)) hl_13 o0_0
  refine l_nil ?_
  obtain ⟨j_32, hj_33, hd⟩ := bind_some hd
  refine k_cut (fun a w => ∃ l_35 : List Int, l_35 = j_32 ∧ ∃ (G_34 : GH) (v_36 : Value) (it_37 : Itm), GLe G_12 G_34 ∧ Fr a 66 [(2, (.pointer (some ⟨b_2, 0, none⟩))), (3, (.pointer (some ⟨b_4, 0, none⟩))), (4, (.pointer (some ⟨b_6, 0, none⟩))), (5, v_36)] ∧ Mem W G_34 w (Itm.box b_2 29 [v0_0] :: Itm.box b_4 83 [(.int .i64 x1_0), (.int .i64 x1_1), (.int .i64 x1_2)] :: Itm.box b_6 29 [(.slice none 0 0)] :: it0_0 :: it_37 :: H) ∧ Ow (RI .i64) 2 G_34 it_37 v_36 l_35) ?_ ?_
  ·rcases cond_some hj_33 with ⟨hc_41, hj_33⟩ | ⟨hc_41, hj_33⟩
   ·refine k_true f rfl hc_41 ?_
    refine k_region ?_
    refine l_fieldAddr Tryd.underlying29 rfl Tryd.sizeOf27 (by decide) f rfl rfl fun a f => ?_
    refine l_boxCell 3 0 m Pl27 f rfl rfl rfl rfl fun a f => ?_
    refine l_fieldAddr Tryd.underlying83 rfl Tryd.sizeOf2 (by decide) f rfl rfl fun a f => ?_
    refine l_boxCell 2 1 m Pl2 f rfl rfl rfl rfl fun a f => ?_
    obtain ⟨e_42, he_43, hj_33⟩ := bind_some hj_33
    refine l_own_at 4 m o0_0 rfl T27 f rfl rfl rfl he_43 fun p_44 a ha_45 f => ?_
    refine l_own_load 4 m o0_0 rfl Pl31 f rfl rfl ha_45 he_43 fun c_46 a h_47 f => ?_
    obtain ⟨y_48, hy_49, hj_33⟩ := bind_some hj_33
    refine l_res f rfl rfl Tryd.call106 (Wk.spec_l1Copy m h_47 hy_49) fun v_53 G_50 Ho_54 w hl_51 m hQ_52 a f => ?_
    obtain ⟨v_55, it_56, rfl, rfl, o_57⟩ := hQ_52
    have h_47 := RSl.mono (RI.mono _) _ _ _ _ hl_51 h_47
    have o_9 := Ow.mono (RI.mono _) hl_51 o_9
    have o0_0 := Ow.mono (RSl.mono (RI.mono _)) hl_51 o0_0
    refine l_as f rfl rfl fun a f => ?_
    refine l_nil ?_
    have m := m.front 5 rfl
    have m := m.front 3 rfl
    have m := m.front 4 rfl
    have m := m.front 5 rfl
    have m := m.eraseAt 5
    obtain rfl := sj hj_33
    exact ⟨_, rfl, _, v_55, it_56, hl_51, f.weak ⟨rfl, rfl, rfl, rfl, trivial⟩, m, o_57⟩
   ·refine k_false f rfl hc_41 ?_
    refine k_skip ?_
    have m := m.front 4 rfl
    have m := m.front 2 rfl
    have m := m.front 3 rfl
    have m := m.front 4 rfl
    obtain rfl := sj hj_33
    exact ⟨_, rfl, _, v_8, it_7, (GLe.refl _), f.weak ⟨rfl, rfl, rfl, rfl, trivial⟩, m, o_9⟩
  ·rintro a w ⟨l_35, rfl, G_34, v_36, it_37, hl_40, f, m, o_38⟩
   have o0_0 := Ow.mono (RSl.mono (RI.mono _)) hl_40 o0_0
   refine k_seq (k_seq (k_region ?_))
   refine l_fieldAddr Tryd.underlying83 rfl Tryd.sizeOf2 (by decide) f rfl rfl fun a f => ?_
   refine l_boxCell 1 2 m Pl2 f rfl rfl rfl rfl fun a f => ?_
   refine l_in f rfl rfl rfl b_eql fun a f => ?_
   refine l_mv f rfl rfl fun a f => ?_
   refine l_cut 4 (fun a w => ∃ G_60, GLe G_34 G_60 ∧ Mem W G_60 w (Itm.box b_2 29 [v0_0] :: Itm.box b_4 83 [(.int .i64 x1_0), (.int .i64 x1_1), (.int .i64 x1_2)] :: Itm.box b_6 29 [(.slice none 0 0)] :: it0_0 :: it_37 :: H) ∧ Fr a 66 [(2, (.pointer (some ⟨b_2, 0, none⟩))), (3, (.pointer (some ⟨b_4, 0, none⟩))), (4, (.pointer (some ⟨b_6, 0, none⟩))), (5, v_36), (23, (.pointer (some ⟨b_4, 2, none⟩))), (24, (.int .i64 x1_2)), (25, (.bool (x1_2 == 2))), (26, (.bool (x1_2 == 2))), (30, (.bool ((x1_2 == 2) || (x1_2 == 4))))]) ?_ ?_
   ·rcases Bool.eq_false_or_eq_true (x1_2 == 2) with hc_59 | hc_59
    ·refine l_not' f rfl rfl rfl hc_59 fun a f => ?_
     refine l_not' f rfl rfl rfl hc_59 fun a f => ?_
     refine l_not' f rfl rfl rfl hc_59 fun a f => ?_
     refine l_op f rfl rfl rfl (r_pickT (f.eval rfl) hc_59 (f.eval rfl)) fun a f => ?_
     have m := m.front 4 rfl
     have m := m.front 4 rfl
     have m := m.front 4 rfl
     have m := m.front 4 rfl
     have m := m.front 4 rfl
     exact ⟨_, (GLe.refl _), m, f.weak ⟨rfl, rfl, rfl, rfl, rfl, rfl, rfl, rfl, by rw [hc_59]; rfl, trivial⟩⟩
    ·refine l_run f rfl rfl hc_59 ?_
     refine l_fieldAddr Tryd.underlying83 rfl Tryd.sizeOf2 (by decide) f rfl rfl fun a f => ?_
     refine l_run f rfl rfl hc_59 ?_
     refine l_boxCell 1 2 m Pl2 f rfl rfl rfl rfl fun a f => ?_
     refine l_run f rfl rfl hc_59 ?_
     refine l_in f rfl rfl rfl b_eql fun a f => ?_
     refine l_op f rfl rfl rfl (r_pickF (f.eval rfl) hc_59 (f.eval rfl)) fun a f => ?_
     have m := m.front 4 rfl
     have m := m.front 4 rfl
     have m := m.front 4 rfl
     have m := m.front 4 rfl
     have m := m.front 4 rfl
     exact ⟨_, (GLe.refl _), m, f.weak ⟨rfl, rfl, rfl, rfl, rfl, rfl, rfl, rfl, by rw [hc_59]; rfl, trivial⟩⟩
   ·rintro a w ⟨G_60, hl_61, m, f⟩
    have o0_0 := Ow.mono (RSl.mono (RI.mono _)) hl_61 o0_0
    have o_38 := Ow.mono (RI.mono _) hl_61 o_38
    refine l_nil ?_
    obtain ⟨j_75, hj_76, hd⟩ := bind_some hd
    refine k_cut (fun a w => ∃ l_78 : List Int, l_78 = j_75 ∧ ∃ (G_77 : GH) (v_79 : Value), GLe G_60 G_77 ∧ Fr a 66 [(2, (.pointer (some ⟨b_2, 0, none⟩))), (3, (.pointer (some ⟨b_4, 0, none⟩))), (4, (.pointer (some ⟨b_6, 0, none⟩))), (5, v_79)] ∧ Mem W G_77 w (Itm.box b_2 29 [v0_0] :: Itm.box b_4 83 [(.int .i64 x1_0), (.int .i64 x1_1), (.int .i64 x1_2)] :: Itm.box b_6 29 [(.slice none 0 0)] :: it0_0 :: H) ∧ RSl (RI .i64) G_77 v_79 l_78) ?_ ?_
    ·rcases cond_some hj_76 with ⟨hc_82, hj_76⟩ | ⟨hc_82, hj_76⟩
     ·refine k_true f rfl hc_82 ?_
      refine k_region ?_
      refine l_mv f rfl rfl fun a f => ?_
      refine l_fieldAddr Tryd.underlying83 rfl Tryd.sizeOf2 (by decide) f rfl rfl fun a f => ?_
      refine l_boxCell 1 1 m Pl2 f rfl rfl rfl rfl fun a f => ?_
      have m := m.front 4 rfl
      obtain ⟨G_83, hl_84, m, h_85⟩ := Ow.stamp (RI.mono _) o_38 m
      have o0_0 := Ow.mono (RSl.mono (RI.mono _)) hl_84 o0_0
      obtain ⟨y_86, hy_87, hj_76⟩ := bind_some hj_76
      refine l_res f rfl rfl Tryd.call70 (Wk.spec_l1Into m h_85 hy_87) fun v_91 G_88 Ho_92 w hl_89 m hQ_90 a f => ?_
      obtain ⟨v_93, rfl, rfl, h_94⟩ := hQ_90
      have h_85 := RSl.mono (RI.mono _) _ _ _ _ hl_89 h_85
      have o0_0 := Ow.mono (RSl.mono (RI.mono _)) hl_89 o0_0
      refine l_as f rfl rfl fun a f => ?_
      refine l_nil ?_
      have m := m.front 3 rfl
      have m := m.front 3 rfl
      have m := m.front 3 rfl
      have m := m.front 3 rfl
      obtain rfl := sj hj_76
      exact ⟨_, rfl, _, v_93, (GLe.trans hl_84 hl_89), f.weak ⟨rfl, rfl, rfl, rfl, trivial⟩, m, h_94⟩
     ·refine k_false f rfl hc_82 ?_
      refine k_skip ?_
      have m := m.front 4 rfl
      obtain ⟨G_95, hl_96, m, h_97⟩ := Ow.stamp (RI.mono _) o_38 m
      have o0_0 := Ow.mono (RSl.mono (RI.mono _)) hl_96 o0_0
      have m := m.front 3 rfl
      have m := m.front 3 rfl
      have m := m.front 3 rfl
      have m := m.front 3 rfl
      obtain rfl := sj hj_76
      exact ⟨_, rfl, _, v_36, hl_96, f.weak ⟨rfl, rfl, rfl, rfl, trivial⟩, m, h_97⟩
    ·rintro a w ⟨l_78, rfl, G_77, v_79, hl_81, f, m, h_80⟩
     have o0_0 := Ow.mono (RSl.mono (RI.mono _)) hl_81 o0_0
     refine k_seq (k_region ?_)
     refine l_fieldAddr Tryd.underlying29 rfl Tryd.sizeOf27 (by decide) f rfl rfl fun a f => ?_
     refine l_boxCell 0 0 m Pl27 f rfl rfl rfl rfl fun a f => ?_
     refine l_fieldAddr Tryd.underlying83 rfl Tryd.sizeOf2 (by decide) f rfl rfl fun a f => ?_
     refine l_boxCell 1 0 m Pl2 f rfl rfl rfl rfl fun a f => ?_
     refine l_mv f rfl rfl fun a f => ?_
     obtain ⟨e_98, he_99, hd⟩ := bind_some hd
     refine l_own_at 3 m o0_0 rfl T27 f rfl rfl rfl he_99 fun p_100 a ha_101 f => ?_
     refine l_own_store 3 m o0_0 rfl Tryd.sizeOf31 f rfl rfl ha_101 he_99 h_80.cells h_80.one1 h_80 fun it_102 w m o_103 => ?_
     refine l_nil (k_seq (k_seq (k_region ?_)))
     refine l_as f rfl rfl fun a f => ?_
     refine l_nil ?_
     obtain ⟨q_187, hl_188, hd⟩ := bind_some hd
     refine k_cut (fun a w => ∃ l_239 : List (List Int), l_239 = q_187 ∧ ∃ (G_238 : GH) (it_240 : Itm), GLe G_77 G_238 ∧ Fr a 66 [(2, (.pointer (some ⟨b_2, 0, none⟩))), (4, (.pointer (some ⟨b_6, 0, none⟩)))] ∧ Mem W G_238 w (Itm.box b_2 29 [v0_0] :: Itm.box b_6 29 [(.slice none 0 0)] :: it_240 :: H) ∧ Ow (RSl (RI .i64)) 31 G_238 it_240 v0_0 l_239) ?_ ?_
     ·refine k_block ?_
      have m := m.front 3 rfl
      have m := m.front 3 rfl
      have m := m.front 3 rfl
      have m := m.front 3 rfl
      refine k_loop (fun s_191 a w => ∃ l_194 : List (List Int), ∃ x_197 : Int, (l_194, x_197) = s_191 ∧ ∃ (G_193 : GH) (it_195 : Itm), GLe G_77 G_193 ∧ Fr a 66 [(2, (.pointer (some ⟨b_2, 0, none⟩))), (3, (.pointer (some ⟨b_4, 0, none⟩))), (4, (.pointer (some ⟨b_6, 0, none⟩))), (5, v_79), (6, (.int .i64 x_197))] ∧ Mem W G_193 w (Itm.box b_2 29 [v0_0] :: Itm.box b_4 83 [(.int .i64 x1_0), (.int .i64 x1_1), (.int .i64 x1_2)] :: Itm.box b_6 29 [(.slice none 0 0)] :: it_195 :: H) ∧ Ow (RSl (RI .i64)) 31 G_193 it_195 v0_0 l_194) hl_188 ⟨_, _, rfl, _, it_102, (GLe.refl _), f.weak ⟨rfl, rfl, rfl, rfl, rfl, trivial⟩, m, o_103⟩ ?_
      clear hl_188 f m
      rintro s_191 o_192 hs_189 hq_190 a w ⟨l_194, x_197, rfl, G_193, it_195, hl_198, f, m, o_196⟩
      have h_80 := RSl.mono (RI.mono _) _ _ _ _ hl_198 h_80
      refine k_seq (k_seq (k_region ?_))
      refine l_mv f rfl rfl fun a f => ?_
      refine l_mv f rfl rfl fun a f => ?_
      refine l_len Tryd.underlying31 f rfl rfl h_80 fun a f => ?_
      refine l_in f rfl rfl rfl b_lss fun a f => ?_
      refine l_nil ?_
      rcases cond_some hs_189 with ⟨hc_243, hs_189⟩ | ⟨hc_243, hs_189⟩
      ·refine k_true f rfl hc_243 ?_
       refine k_skip ?_
       refine k_seq (k_block ?_)
       refine k_draw 18 Follows (by kernel_rfl) m ?_
       refine q_fieldAddr (i := 0) 18 Tryd.underlying29 rfl Tryd.sizeOf27 (by decide) rfl (by kernel_rfl) rfl f rfl rfl rfl fun a f => ?_
       refine q_boxCell (i := 1) 18 0 Pl27 rfl rfl rfl (by kernel_rfl) rfl f rfl rfl rfl fun a f => ?_
       refine q_mv 2 18 rfl (by kernel_rfl) f rfl rfl rfl fun a f => ?_
       refine q_mv 3 18 rfl (by kernel_rfl) f rfl rfl rfl fun a f => ?_
       obtain ⟨e_244, he_245, hs_189⟩ := bind_some hs_189
       refine q_at (i := 4) 18 T31 h_80 he_245 rfl (by kernel_rfl) rfl f rfl rfl rfl rfl fun p_246 c_247 a g_248 h_249 f => ?_
       subst h_249
       refine q_loadAt (i := 5) 18 Pl2 g_248 rfl (by kernel_rfl) rfl f rfl rfl rfl fun a f => ?_
       refine q_fieldAddr (i := 6) 18 Tryd.underlying29 rfl Tryd.sizeOf27 (by decide) rfl (by kernel_rfl) rfl f rfl rfl rfl fun a f => ?_
       refine q_boxCell (i := 7) 18 0 Pl27 rfl rfl rfl (by kernel_rfl) rfl f rfl rfl rfl fun a f => ?_
       refine q_mv 8 18 rfl (by kernel_rfl) f rfl rfl rfl fun a f => ?_
       refine q_mv 9 18 rfl (by kernel_rfl) f rfl rfl rfl fun a f => ?_
       obtain ⟨e_250, he_251, hs_189⟩ := bind_some hs_189
       refine q_at (i := 10) 18 T31 h_80 he_251 rfl (by kernel_rfl) rfl f rfl rfl rfl rfl fun p_252 c_253 a g_254 h_255 f => ?_
       subst h_255
       refine q_loadAt (i := 11) 18 Pl2 g_254 rfl (by kernel_rfl) rfl f rfl rfl rfl fun a f => ?_
       obtain ⟨e_256, he_257, hs_189⟩ := bind_some hs_189
       refine q_own_at (i := 12) 18 3 m o_196 rfl T27 he_257 rfl (by kernel_rfl) rfl f rfl rfl rfl rfl fun p_258 a ha_259 f => ?_
       refine q_own_load (i := 13) 18 3 o_196 rfl Pl31 ha_259 he_257 rfl (by kernel_rfl) rfl f rfl rfl rfl fun c_260 a h_261 f => ?_
       refine q_fieldAddr (i := 14) 18 Tryd.underlying83 rfl Tryd.sizeOf2 (by decide) rfl (by kernel_rfl) rfl f rfl rfl rfl fun a f => ?_
       refine q_boxCell (i := 15) 18 1 Pl2 rfl rfl rfl (by kernel_rfl) rfl f rfl rfl rfl fun a f => ?_
       refine q_one (i := 16) rfl (by kernel_rfl) rfl fun G_262 w hl_263 m K_264 K_264 => ?_
       have h_80 := RSl.mono (RI.mono _) _ _ _ _ hl_263 h_80
       have g_248 := At.mono hl_263 g_248
       have g_254 := At.mono hl_263 g_254
       have h_261 := RSl.mono (RI.mono _) _ _ _ _ hl_263 h_261
       have o_196 := Ow.mono (RSl.mono (RI.mono _)) hl_263 o_196
       obtain ⟨y_265, hy_266, hs_189⟩ := bind_some hs_189
       refine l_res f rfl rfl Tryd.call70 (Wk.spec_l1Into m h_261 hy_266) fun v_270 G_267 Ho_271 w hl_268 m hQ_269 a f => ?_
       obtain ⟨v_272, rfl, rfl, h_273⟩ := hQ_269
       have h_80 := RSl.mono (RI.mono _) _ _ _ _ hl_268 h_80
       have g_248 := At.mono hl_268 g_248
       have g_254 := At.mono hl_268 g_254
       have h_261 := RSl.mono (RI.mono _) _ _ _ _ hl_268 h_261
       have o_196 := Ow.mono (RSl.mono (RI.mono _)) hl_268 o_196
       refine l_nil ?_
       refine K_264 G_267 [] _ _ hl_268 m ?_
       obtain ⟨e_274, he_275, hs_189⟩ := bind_some hs_189
       refine q_own_at (i := 17) 18 3 m o_196 rfl T27 he_275 rfl (by kernel_rfl) rfl f rfl rfl rfl rfl fun p_276 a ha_277 f => ?_
       refine q_end fun G_278 w hl_279 m => ?_
       have h_80 := RSl.mono (RI.mono _) _ _ _ _ hl_279 h_80
       have g_248 := At.mono hl_279 g_248
       have g_254 := At.mono hl_279 g_254
       have h_261 := RSl.mono (RI.mono _) _ _ _ _ hl_279 h_261
       have h_273 := RSl.mono (RI.mono _) _ _ _ _ hl_279 h_273
       have o_196 := Ow.mono (RSl.mono (RI.mono _)) hl_279 o_196
       refine l_own_store 3 m o_196 rfl Tryd.sizeOf31 f rfl rfl ha_277 he_275 h_273.cells h_273.one1 h_273 fun it_280 w m o_281 => ?_
       refine l_nil (k_region ?_)
       refine l_mv f rfl rfl fun a f => ?_
       refine l_in f rfl rfl rfl b_add fun a f => ?_
       refine l_as f rfl rfl fun a f => ?_
       refine l_nil ?_
       have m := m.front 3 rfl
       have m := m.front 3 rfl
       have m := m.front 3 rfl
       have m := m.front 3 rfl
       obtain rfl := sj hs_189
       exact ⟨_, rfl, _, _, rfl, _, it_280, (GLe.trans hl_198 (GLe.trans hl_263 (GLe.trans hl_268 hl_279))), f.weak ⟨rfl, rfl, rfl, rfl, rfl, trivial⟩, m, o_281⟩
      ·refine k_false f rfl hc_243 ?_
       refine k_exit rfl ?_
       have m := m.front 3 rfl
       have m := m.front 3 rfl
       have m := m.front 2 rfl
       have m := m.eraseAt 3
       obtain rfl := sj hs_189
       obtain rfl := hq_190 _ rfl
       exact ⟨_, rfl, _, it_195, hl_198, f.weak ⟨rfl, rfl, trivial⟩, m, o_196⟩
     ·rintro a w ⟨l_239, rfl, G_238, it_240, hl_242, f, m, o_241⟩
      refine k_seq (k_region ?_)
      refine l_boxAgg 0 0 (ds := [v0_0]) m Ag29 f rfl rfl rfl rfl rfl fun a f => ?_
      refine l_boxStore 1 0 (ds := [v0_0]) m Tryd.sizeOf29 f rfl rfl rfl (ones_cons (Ow.one1 2 m o_241 rfl) ones_nil) rfl (Nat.le_of_ble_eq_true rfl) rfl fun w m => ?_
      refine l_nil ?_
      refine k_ret ?_
      have rc_282 := rr_agg (P := Tryd.prog) 1 m Ag29 f (s := 4) rfl rfl rfl
      have m := m.front 2 rfl
      have m := m.eraseAt 2
      have m := m.eraseAt 1
      obtain rfl := sj hd
      exact ⟨[(.agg #[v0_0])], ⟨rc_282, trivial⟩, f.defers, _, [it_240], (GLe.trans hl_13 (GLe.trans hl_40 (GLe.trans hl_61 (GLe.trans hl_81 hl_242)))), m, _, rfl, rfl, o_241⟩

theorem Wk.spec_l1Size {W w : World} {G : GH} {H : List Itm} {v0_0 : Value} {x0_0 : (List (List Int))} (m : Mem W G w (H)) (h0_0 : RSl (RSl (RI .i64)) G v0_0 x0_0) {y : Int} (hd : D.spec_l1Size x0_0 = some y) :
  Calls Tryd.prog 89 #[(.agg #[v0_0])] w (Res W G H (fun _ Ho v => Ho = [] ∧ v = (.int .i64 y))) := by
 refine calls_b (args := [(.agg #[v0_0])]) (N := 6) [.tmp 2] Tryd.func89 rfl rfl (Nat.le_of_ble_eq_true rfl) rfl fun a f => ?_
 unfold D.spec_l1Size at hd
 refine k_seq (k_region ?_)
 refine l_box (cs := [v0_0]) m f rfl rfl rfl fun b_2 w a m f => ?_
 refine l_as f rfl rfl fun a f => ?_
 refine l_nil (k_seq (k_region ?_))
 refine l_fieldAddr Tryd.underlying29 rfl Tryd.sizeOf27 (by decide) f rfl rfl fun a f => ?_
 refine l_boxCell 0 0 m Pl27 f rfl rfl rfl rfl fun a f => ?_
 refine l_len Tryd.underlying27 f rfl rfl h0_0 fun a f => ?_
 refine l_as f rfl rfl fun a f => ?_
 refine l_nil ?_
 refine k_ret ?_
 have m : Mem W G w H := Mem.drop (H' := [Itm.box b_2 29 [v0_0]]) m
 obtain rfl := sj hd
 exact ⟨[(.int .i64 (x0_0.length : Int))], ⟨f.get _ _ rfl, trivial⟩, f.defers, _, [], (GLe.refl _), m, rfl, rfl⟩

theorem Wk.spec_l1Set {W w : World} {G : GH} {H : List Itm} {v0 : Value} {x0 : (List Int)} {x1 : Int} (m : Mem W G w (H)) (h0 : RSl (RI .i64) G v0 x0) {y : Bool} (hd : D.spec_l1Set x0 x1 = some y) :
  Calls Tryd.prog 98 #[v0, (.int .i64 x1)] w (Res W G H (fun _ Ho v => Ho = [] ∧ v = (.bool y))) := by
 refine calls_b (args := [v0, (.int .i64 x1)]) (N := 40) [.tmp 4] Tryd.func98 rfl rfl (Nat.le_of_ble_eq_true rfl) rfl fun a f => ?_
 unfold D.spec_l1Set at hd
 refine k_seq (k_region ?_)
 refine l_as f rfl rfl fun a f => ?_
 refine l_nil (k_seq (k_seq (k_region ?_)))
 refine l_mv f rfl rfl fun a f => ?_
 refine l_len Tryd.underlying31 f rfl rfl h0 fun a f => ?_
 refine l_mv f rfl rfl fun a f => ?_
 refine l_in f rfl rfl rfl b_gtr fun a f => ?_
 refine l_nil ?_
 rcases cond_some hd with ⟨hc_1, hd⟩ | ⟨hc_1, hd⟩
 ·refine k_true f rfl hc_1 ?_
  refine k_seq (k_region ?_)
  refine l_as f rfl rfl fun a f => ?_
  refine l_nil ?_
  refine k_ret ?_
  obtain rfl := sj hd
  exact ⟨[(.bool false)], ⟨f.get _ _ rfl, trivial⟩, f.defers, _, [], (GLe.refl _), m, rfl, rfl⟩
 ·refine k_false f rfl hc_1 ?_
  refine k_skip ?_
  refine k_seq (k_seq (k_region ?_))
  refine l_as f rfl rfl fun a f => ?_
  refine l_nil ?_
  obtain ⟨q_150, hl_151, hd⟩ := bind_some hd
  refine k_cut (fun a w => ∃ q_150' : Unit, q_150 = .inl q_150' ∧ ∃ (G_232 : GH), GLe G G_232 ∧ Fr a 40 [] ∧ Mem W G_232 w (H)) ?_ ?_
  ·refine k_block ?_
   refine k_loop (fun s_154 a w => ∃ x_157 : Int, x_157 = s_154 ∧ ∃ (G_156 : GH), GLe G G_156 ∧ Fr a 40 [(0, v0), (1, (.int .i64 x1)), (5, (.int .i64 x_157))] ∧ Mem W G_156 w (H)) hl_151 ⟨_, rfl, _, (GLe.refl _), f.weak ⟨rfl, rfl, rfl, trivial⟩, m⟩ ?_
   clear hl_151 f m
   rintro s_154 o_155 hs_152 hq_153 a w ⟨x_157, rfl, G_156, hl_158, f, m⟩
   have h0 := RSl.mono (RI.mono _) _ _ _ _ hl_158 h0
   refine k_seq (k_seq (k_region ?_))
   refine l_mv f rfl rfl fun a f => ?_
   refine l_mv f rfl rfl fun a f => ?_
   refine l_len Tryd.underlying31 f rfl rfl h0 fun a f => ?_
   refine l_in f rfl rfl rfl b_lss fun a f => ?_
   refine l_nil ?_
   rcases cond_some hs_152 with ⟨hc_234, hs_152⟩ | ⟨hc_234, hs_152⟩
   ·refine k_true f rfl hc_234 ?_
    refine k_skip ?_
    refine k_seq (k_block (k_seq ?_))
    refine k_draw 24 Follows (by kernel_rfl) m ?_
    refine q_mv 0 24 rfl (by kernel_rfl) f rfl rfl rfl fun a f => ?_
    refine q_mv 1 24 rfl (by kernel_rfl) f rfl rfl rfl fun a f => ?_
    obtain ⟨e_235, he_236, hs_152⟩ := bind_some hs_152
    refine q_at (i := 2) 24 T31 h0 he_236 rfl (by kernel_rfl) rfl f rfl rfl rfl rfl fun p_237 c_238 a g_239 h_240 f => ?_
    subst h_240
    refine q_loadAt (i := 3) 24 Pl2 g_239 rfl (by kernel_rfl) rfl f rfl rfl rfl fun a f => ?_
    refine q_mv 4 24 rfl (by kernel_rfl) f rfl rfl rfl fun a f => ?_
    refine q_p 5 24 rfl (by kernel_rfl) f rfl rfl rfl (fun _ => r_int (f.eval rfl) (f.eval rfl) b_sub) fun a f => ?_
    obtain ⟨y_241, hy_242, hs_152⟩ := bind_some hs_152
    refine q_call (i := 6) 24 rfl (by kernel_rfl) rfl f rfl rfl rfl Tryd.call67 (fun _ _ w hG_243 m => Wk.spec_l1In m  hy_242) fun a f => ?_
    refine q_p 7 24 rfl (by kernel_rfl) f rfl rfl rfl (fun _ => r_not (f.eval rfl)) fun a f => ?_
    refine q_mv 8 24 rfl (by kernel_rfl) f rfl rfl rfl fun a f => ?_
    obtain ⟨b_274, hj_275, hs_152⟩ := bind_some hs_152
    refine q_cut (fuel' := 0) (listed' := #[true, true, true, true, true, true, true, true, true, true, true, true, true, true, true, true, true, true, true, true, true, true, true, true]) (fun a => Fr a 40 [(0, v0), (1, (.int .i64 x1)), (5, (.int .i64 x_157)), (13, (.bool (decide (x_157 < (x0.length : Int))))), (16, v0), (17, (.int .i64 x_157)), (18, p_237), (19, (.int .i64 e_235)), (20, (.int .i64 x1)), (21, (.int .i64 (IntKind.i64.wrap (x1 - 1)))), (22, (.bool y_241)), (23, (.bool (!y_241))), (24, (.bool (!y_241))), (39, (.bool b_274))]) ?_ ?_
    ·intro a f
     refine q_end fun G_304 w hl_305 m => ?_
     have h0 := RSl.mono (RI.mono _) _ _ _ _ hl_305 h0
     have g_239 := At.mono hl_305 g_239
     refine l_nil ?_
     rcases cond_some hs_152 with ⟨hc_306, hs_152⟩ | ⟨hc_306, hs_152⟩
     ·refine k_true f rfl hc_306 ?_
      refine k_seq (k_region ?_)
      refine l_as f rfl rfl fun a f => ?_
      refine l_nil ?_
      refine k_ret ?_
      obtain rfl := sj hs_152
      obtain rfl := hq_153 _ rfl
      obtain rfl := sj hd
      exact ⟨[(.bool false)], ⟨f.get _ _ rfl, trivial⟩, f.defers, _, [], (GLe.trans hl_158 hl_305), m, rfl, rfl⟩
     ·refine k_false f rfl hc_306 ?_
      refine k_skip ?_
      refine k_region ?_
      refine l_mv f rfl rfl fun a f => ?_
      refine l_in f rfl rfl rfl b_add fun a f => ?_
      refine l_as f rfl rfl fun a f => ?_
      refine l_nil ?_
      obtain rfl := sj hs_152
      exact ⟨_, rfl, _, rfl, _, (GLe.trans hl_158 hl_305), f.weak ⟨rfl, rfl, rfl, trivial⟩, m⟩
    ·intro K_273
     rcases cond_some hj_275 with ⟨hc_244, hj_275⟩ | ⟨hc_244, hj_275⟩
     ·refine q_ng 9 24 rfl (by kernel_rfl) f rfl rfl hc_244 rfl fun a f => ?_
      refine q_ng 10 24 rfl (by kernel_rfl) f rfl rfl hc_244 rfl fun a f => ?_
      refine q_ng 11 24 rfl (by kernel_rfl) f rfl rfl hc_244 rfl fun a f => ?_
      refine q_nu 12 24 rfl (by kernel_rfl) f rfl rfl rfl fun a f => ?_
      refine q_nu 13 24 rfl (by kernel_rfl) f rfl rfl rfl fun a f => ?_
      refine q_nu 14 24 rfl (by kernel_rfl) f rfl rfl rfl fun a f => ?_
      refine q_nu 15 24 rfl (by kernel_rfl) f rfl rfl rfl fun a f => ?_
      refine q_nu 16 24 rfl (by kernel_rfl) f rfl rfl rfl fun a f => ?_
      refine q_nu 17 24 rfl (by kernel_rfl) f rfl rfl rfl fun a f => ?_
      refine q_nu 18 24 rfl (by kernel_rfl) f rfl rfl rfl fun a f => ?_
      refine q_nu 19 24 rfl (by kernel_rfl) f rfl rfl rfl fun a f => ?_
      refine q_nu 20 24 rfl (by kernel_rfl) f rfl rfl rfl fun a f => ?_
      refine q_nu 21 24 rfl (by kernel_rfl) f rfl rfl rfl fun a f => ?_
      refine q_ng 22 24 rfl (by kernel_rfl) f rfl rfl hc_244 rfl fun a f => ?_
      refine q_p 23 24 rfl (by kernel_rfl) f rfl rfl rfl (fun _ => r_pickT (f.eval rfl) hc_244 (f.eval rfl)) fun a f => ?_
      obtain rfl := sj hj_275
      exact K_273 _ (f.weak ⟨rfl, rfl, rfl, rfl, rfl, rfl, rfl, rfl, rfl, rfl, rfl, rfl, rfl, rfl, trivial⟩)
     ·refine q_mv 9 24 rfl (by kernel_rfl) f (wanted_of f rfl rfl rfl hc_244) rfl rfl fun a f => ?_
      refine q_p 10 24 rfl (by kernel_rfl) f (wanted_of f rfl rfl rfl hc_244) rfl rfl (fun _ => r_int (f.eval rfl) (f.eval rfl) b_gtr) fun a f => ?_
      refine q_mv 11 24 rfl (by kernel_rfl) f (wanted_of f rfl rfl rfl hc_244) rfl rfl fun a f => ?_
      obtain ⟨b_290, hj_291, hj_275⟩ := bind_some hj_275
      refine q_cut (fuel' := 1) (listed' := #[true, true, true, true, true, true, true, true, true, true, true, true, true, true, true, true, true, true, true, true, true, true, true, false]) (fun a => Fr a 40 [(0, v0), (1, (.int .i64 x1)), (5, (.int .i64 x_157)), (13, (.bool (decide (x_157 < (x0.length : Int))))), (16, v0), (17, (.int .i64 x_157)), (18, p_237), (19, (.int .i64 e_235)), (20, (.int .i64 x1)), (21, (.int .i64 (IntKind.i64.wrap (x1 - 1)))), (22, (.bool y_241)), (23, (.bool (!y_241))), (24, (.bool (!y_241))), (25, (.int .i64 x_157)), (26, (.bool (decide ((0 : Int) < x_157)))), (27, (.bool (decide ((0 : Int) < x_157)))), (38, (.bool b_290))]) ?_ ?_
      ·intro a f
       refine q_p 23 24 rfl (by kernel_rfl) f rfl rfl rfl (fun _ => r_pickF (f.eval rfl) hc_244 (f.eval rfl)) fun a f => ?_
       obtain rfl := sj hj_275
       exact K_273 _ (f.weak ⟨rfl, rfl, rfl, rfl, rfl, rfl, rfl, rfl, rfl, rfl, rfl, rfl, rfl, rfl, trivial⟩)
      ·intro K_289
       rcases cond_some hj_291 with ⟨hc_276, hj_291⟩ | ⟨hc_276, hj_291⟩
       ·refine q_mv 12 24 rfl (by kernel_rfl) f (wanted_of f rfl rfl rfl hc_276) rfl rfl fun a f => ?_
        refine q_mv 13 24 rfl (by kernel_rfl) f (wanted_of f rfl rfl rfl hc_276) rfl rfl fun a f => ?_
        obtain ⟨e_292, he_293, hj_291⟩ := bind_some hj_291
        refine q_at (i := 14) 24 T31 h0 he_293 rfl (by kernel_rfl) rfl f (wanted_of f rfl rfl rfl hc_276) rfl rfl rfl fun p_294 c_295 a g_296 h_297 f => ?_
        subst h_297
        refine q_loadAt (i := 15) 24 Pl2 g_296 rfl (by kernel_rfl) rfl f (wanted_of f rfl rfl rfl hc_276) rfl rfl fun a f => ?_
        refine q_mv 16 24 rfl (by kernel_rfl) f (wanted_of f rfl rfl rfl hc_276) rfl rfl fun a f => ?_
        refine q_mv 17 24 rfl (by kernel_rfl) f (wanted_of f rfl rfl rfl hc_276) rfl rfl fun a f => ?_
        refine q_p 18 24 rfl (by kernel_rfl) f (wanted_of f rfl rfl rfl hc_276) rfl rfl (fun _ => r_int (f.eval rfl) (f.eval rfl) b_sub) fun a f => ?_
        obtain ⟨e_298, he_299, hj_291⟩ := bind_some hj_291
        refine q_at (i := 19) 24 T31 h0 he_299 rfl (by kernel_rfl) rfl f (wanted_of f rfl rfl rfl hc_276) rfl rfl rfl fun p_300 c_301 a g_302 h_303 f => ?_
        subst h_303
        refine q_loadAt (i := 20) 24 Pl2 g_302 rfl (by kernel_rfl) rfl f (wanted_of f rfl rfl rfl hc_276) rfl rfl fun a f => ?_
        refine q_p 21 24 rfl (by kernel_rfl) f (wanted_of f rfl rfl rfl hc_276) rfl rfl (fun _ => r_int (f.eval rfl) (f.eval rfl) b_leq) fun a f => ?_
        refine q_p 22 24 rfl (by kernel_rfl) f (wanted_of f rfl rfl rfl hc_244) rfl rfl (fun _ => r_pickT (f.eval rfl) hc_276 (f.eval rfl)) fun a f => ?_
        obtain rfl := sj hj_291
        exact K_289 _ (f.weak ⟨rfl, rfl, rfl, rfl, rfl, rfl, rfl, rfl, rfl, rfl, rfl, rfl, rfl, rfl, rfl, rfl, rfl, trivial⟩)
       ·refine q_ng 12 24 rfl (by kernel_rfl) f rfl rfl hc_276 rfl fun a f => ?_
        refine q_ng 13 24 rfl (by kernel_rfl) f rfl rfl hc_276 rfl fun a f => ?_
        refine q_ng 14 24 rfl (by kernel_rfl) f rfl rfl hc_276 rfl fun a f => ?_
        refine q_ng 15 24 rfl (by kernel_rfl) f rfl rfl hc_276 rfl fun a f => ?_
        refine q_ng 16 24 rfl (by kernel_rfl) f rfl rfl hc_276 rfl fun a f => ?_
        refine q_ng 17 24 rfl (by kernel_rfl) f rfl rfl hc_276 rfl fun a f => ?_
        refine q_ng 18 24 rfl (by kernel_rfl) f rfl rfl hc_276 rfl fun a f => ?_
        refine q_ng 19 24 rfl (by kernel_rfl) f rfl rfl hc_276 rfl fun a f => ?_
        refine q_ng 20 24 rfl (by kernel_rfl) f rfl rfl hc_276 rfl fun a f => ?_
        refine q_ng 21 24 rfl (by kernel_rfl) f rfl rfl hc_276 rfl fun a f => ?_
        refine q_p 22 24 rfl (by kernel_rfl) f (wanted_of f rfl rfl rfl hc_244) rfl rfl (fun _ => r_pickF (f.eval rfl) hc_276 (f.eval rfl)) fun a f => ?_
        obtain rfl := sj hj_291
        exact K_289 _ (f.weak ⟨rfl, rfl, rfl, rfl, rfl, rfl, rfl, rfl, rfl, rfl, rfl, rfl, rfl, rfl, rfl, rfl, rfl, trivial⟩)
   ·refine k_false f rfl hc_234 ?_
    refine k_exit rfl ?_
    obtain rfl := sj hs_152
    obtain rfl := hq_153 _ rfl
    exact ⟨_, rfl, _, hl_158, f.weak trivial, m⟩
  ·rintro a w ⟨_, rfl, G_232, hl_233, f, m⟩
   refine k_seq (k_region ?_)
   refine l_as f rfl rfl fun a f => ?_
   refine l_nil ?_
   refine k_ret ?_
   obtain rfl := sj hd
   exact ⟨[(.bool true)], ⟨f.get _ _ rfl, trivial⟩, f.defers, _, [], hl_233, m, rfl, rfl⟩

theorem Wk.spec_GraphOk {W w : World} {G : GH} {H : List Itm} {v0_0 : Value} {x0_0 : (List (List Int))} (m : Mem W G w (H)) (h0_0 : RSl (RSl (RI .i64)) G v0_0 x0_0) {y : Bool} (hd : D.spec_GraphOk x0_0 = some y) :
  Calls Tryd.prog 51 #[(.agg #[v0_0])] w (Res W G H (fun _ Ho v => Ho = [] ∧ v = (.bool y))) := by
 refine calls_b (args := [(.agg #[v0_0])]) (N := 64) [.tmp 2] Tryd.func51 rfl rfl (Nat.le_of_ble_eq_true rfl) rfl fun a f => ?_
 unfold D.spec_GraphOk at hd
 refine k_seq (k_region ?_)
 refine l_box (cs := [v0_0]) m f rfl rfl rfl fun b_2 w a m f => ?_
 refine l_as f rfl rfl fun a f => ?_
 refine l_nil (k_seq (k_region ?_))
 refine l_boxAgg 0 0 (ds := [v0_0]) m Ag29 f rfl rfl rfl rfl rfl fun a f => ?_
 obtain ⟨y_3, hy_4, hd⟩ := bind_some hd
 refine l_res f rfl rfl Tryd.call89 (Wk.spec_l1Size m h0_0 hy_4) fun v_8 G_5 Ho_9 w hl_6 m hQ_7 a f => ?_
 obtain ⟨rfl, rfl⟩ := hQ_7
 have h0_0 := RSl.mono (RSl.mono (RI.mono _)) _ _ _ _ hl_6 h0_0
 refine l_as f rfl rfl fun a f => ?_
 refine l_nil (k_seq (k_seq (k_region ?_)))
 refine l_mv f rfl rfl fun a f => ?_
 obtain ⟨y_10, hy_11, hd⟩ := bind_some hd
 refine l_res f rfl rfl Tryd.call67 (Wk.spec_l1In m  hy_11) fun v_15 G_12 Ho_16 w hl_13 m hQ_14 a f => ?_
 obtain ⟨rfl, rfl⟩ := hQ_14
 have h0_0 := RSl.mono (RSl.mono (RI.mono _)) _ _ _ _ hl_13 h0_0
 refine l_op f rfl rfl rfl (r_not (f.eval rfl)) fun a f => ?_
 refine l_nil ?_
 rcases cond_some hd with ⟨hc_17, hd⟩ | ⟨hc_17, hd⟩
 ·refine k_true f rfl hc_17 ?_
  refine k_seq (k_region ?_)
  refine l_as f rfl rfl fun a f => ?_
  refine l_nil ?_
  refine k_ret ?_
  have m : Mem W G_12 w H := Mem.drop (H' := [Itm.box b_2 29 [v0_0]]) m
  obtain rfl := sj hd
  exact ⟨[(.bool false)], ⟨f.get _ _ rfl, trivial⟩, f.defers, _, [], (GLe.trans hl_6 hl_13), m, rfl, rfl⟩
 ·refine k_false f rfl hc_17 ?_
  refine k_skip ?_
  refine k_seq (k_seq (k_region ?_))
  refine l_as f rfl rfl fun a f => ?_
  refine l_nil ?_
  obtain ⟨q_138, hl_139, hd⟩ := bind_some hd
  refine k_cut (fun a w => ∃ q_138' : Unit, q_138 = .inl q_138' ∧ ∃ (G_206 : GH), GLe G_12 G_206 ∧ Fr a 64 [(1, (.pointer (some ⟨b_2, 0, none⟩))), (3, (.int .i64 y_3))] ∧ Mem W G_206 w (Itm.box b_2 29 [v0_0] :: H)) ?_ ?_
  ·refine k_block ?_
   refine k_loop (fun s_142 a w => ∃ x_145 : Int, x_145 = s_142 ∧ ∃ (G_144 : GH), GLe G_12 G_144 ∧ Fr a 64 [(1, (.pointer (some ⟨b_2, 0, none⟩))), (3, (.int .i64 y_3)), (4, (.int .i64 x_145))] ∧ Mem W G_144 w (Itm.box b_2 29 [v0_0] :: H)) hl_139 ⟨_, rfl, _, (GLe.refl _), f.weak ⟨rfl, rfl, rfl, trivial⟩, m⟩ ?_
   clear hl_139 f m
   rintro s_142 o_143 hs_140 hq_141 a w ⟨x_145, rfl, G_144, hl_146, f, m⟩
   have h0_0 := RSl.mono (RSl.mono (RI.mono _)) _ _ _ _ hl_146 h0_0
   refine k_seq (k_seq (k_region ?_))
   refine l_mv f rfl rfl fun a f => ?_
   refine l_mv f rfl rfl fun a f => ?_
   refine l_in f rfl rfl rfl b_lss fun a f => ?_
   refine l_nil ?_
   rcases cond_some hs_140 with ⟨hc_208, hs_140⟩ | ⟨hc_208, hs_140⟩
   ·refine k_true f rfl hc_208 ?_
    refine k_skip ?_
    refine k_seq (k_block (k_seq (k_region ?_)))
    refine l_fieldAddr Tryd.underlying29 rfl Tryd.sizeOf27 (by decide) f rfl rfl fun a f => ?_
    refine l_boxCell 0 0 m Pl27 f rfl rfl rfl rfl fun a f => ?_
    refine l_mv f rfl rfl fun a f => ?_
    obtain ⟨e_209, he_210, hs_140⟩ := bind_some hs_140
    refine l_at T27 f rfl rfl rfl h0_0 he_210 fun p_211 c_212 a g_213 h_214 f => ?_
    refine l_loadAt m Pl31 f rfl rfl g_213 fun a f => ?_
    refine l_mv f rfl rfl fun a f => ?_
    obtain ⟨y_215, hy_216, hs_140⟩ := bind_some hs_140
    refine l_res f rfl rfl Tryd.call98 (Wk.spec_l1Set m h_214 hy_216) fun v_220 G_217 Ho_221 w hl_218 m hQ_219 a f => ?_
    obtain ⟨rfl, rfl⟩ := hQ_219
    have h0_0 := RSl.mono (RSl.mono (RI.mono _)) _ _ _ _ hl_218 h0_0
    have g_213 := At.mono hl_218 g_213
    have h_214 := RSl.mono (RI.mono _) _ _ _ _ hl_218 h_214
    refine l_op f rfl rfl rfl (r_not (f.eval rfl)) fun a f => ?_
    refine l_mv f rfl rfl fun a f => ?_
    obtain ⟨b_251, hj_252, hs_140⟩ := bind_some hs_140
    refine l_cut 8 (fun a w => ∃ G_249, GLe G_217 G_249 ∧ Mem W G_249 w (Itm.box b_2 29 [v0_0] :: H) ∧ Fr a 64 [(1, (.pointer (some ⟨b_2, 0, none⟩))), (3, (.int .i64 y_3)), (4, (.int .i64 x_145)), (14, (.bool (decide (x_145 < y_3)))), (17, (.pointer (some ⟨b_2, 0, none⟩))), (18, v0_0), (19, (.int .i64 x_145)), (20, p_211), (21, c_212), (22, (.int .i64 y_3)), (23, (.bool y_215)), (24, (.bool (!y_215))), (25, (.bool (!y_215))), (33, (.bool b_251))]) ?_ ?_
    ·rcases cond_some hj_252 with ⟨hc_222, hj_252⟩ | ⟨hc_222, hj_252⟩
     ·refine l_not' f rfl rfl rfl hc_222 fun a f => ?_
      refine l_not' f rfl rfl rfl hc_222 fun a f => ?_
      refine l_not' f rfl rfl rfl hc_222 fun a f => ?_
      refine l_not' f rfl rfl rfl hc_222 fun a f => ?_
      refine l_not' f rfl rfl rfl hc_222 fun a f => ?_
      refine l_not' f rfl rfl rfl hc_222 fun a f => ?_
      refine l_not' f rfl rfl rfl hc_222 fun a f => ?_
      refine l_op f rfl rfl rfl (r_pickT (f.eval rfl) hc_222 (f.eval rfl)) fun a f => ?_
      obtain rfl := sj hj_252
      exact ⟨_, (GLe.refl _), m, f.weak ⟨rfl, rfl, rfl, rfl, rfl, rfl, rfl, rfl, rfl, rfl, rfl, rfl, rfl, rfl, trivial⟩⟩
     ·refine l_run f rfl rfl hc_222 ?_
      refine l_fieldAddr Tryd.underlying29 rfl Tryd.sizeOf27 (by decide) f rfl rfl fun a f => ?_
      refine l_run f rfl rfl hc_222 ?_
      refine l_boxCell 0 0 m Pl27 f rfl rfl rfl rfl fun a f => ?_
      refine l_run f rfl rfl hc_222 ?_
      refine l_mv f rfl rfl fun a f => ?_
      refine l_run f rfl rfl hc_222 ?_
      obtain ⟨e_253, he_254, hj_252⟩ := bind_some hj_252
      refine l_at T27 f rfl rfl rfl h0_0 he_254 fun p_255 c_256 a g_257 h_258 f => ?_
      refine l_run f rfl rfl hc_222 ?_
      refine l_loadAt m Pl31 f rfl rfl g_257 fun a f => ?_
      refine l_run f rfl rfl hc_222 ?_
      refine l_mv f rfl rfl fun a f => ?_
      refine l_run f rfl rfl hc_222 ?_
      obtain ⟨y_259, hy_260, hj_252⟩ := bind_some hj_252
      refine l_res f rfl rfl Tryd.call68 (Wk.spec_l1Has m h_258 hy_260) fun v_264 G_261 Ho_265 w hl_262 m hQ_263 a f => ?_
      obtain ⟨rfl, rfl⟩ := hQ_263
      have h0_0 := RSl.mono (RSl.mono (RI.mono _)) _ _ _ _ hl_262 h0_0
      have g_213 := At.mono hl_262 g_213
      have h_214 := RSl.mono (RI.mono _) _ _ _ _ hl_262 h_214
      have g_257 := At.mono hl_262 g_257
      have h_258 := RSl.mono (RI.mono _) _ _ _ _ hl_262 h_258
      refine l_op f rfl rfl rfl (r_pickF (f.eval rfl) hc_222 (f.eval rfl)) fun a f => ?_
      obtain rfl := sj hj_252
      exact ⟨_, hl_262, m, f.weak ⟨rfl, rfl, rfl, rfl, rfl, rfl, rfl, rfl, rfl, rfl, rfl, rfl, rfl, rfl, trivial⟩⟩
    ·rintro a w ⟨G_249, hl_250, m, f⟩
     have h0_0 := RSl.mono (RSl.mono (RI.mono _)) _ _ _ _ hl_250 h0_0
     have g_213 := At.mono hl_250 g_213
     have h_214 := RSl.mono (RI.mono _) _ _ _ _ hl_250 h_214
     refine l_nil ?_
     rcases cond_some hs_140 with ⟨hc_266, hs_140⟩ | ⟨hc_266, hs_140⟩
     ·refine k_true f rfl hc_266 ?_
      refine k_seq (k_region ?_)
      refine l_as f rfl rfl fun a f => ?_
      refine l_nil ?_
      refine k_ret ?_
      have m : Mem W G_249 w H := Mem.drop (H' := [Itm.box b_2 29 [v0_0]]) m
      obtain rfl := sj hs_140
      obtain rfl := hq_141 _ rfl
      obtain rfl := sj hd
      exact ⟨[(.bool false)], ⟨f.get _ _ rfl, trivial⟩, f.defers, _, [], (GLe.trans hl_6 (GLe.trans hl_13 (GLe.trans hl_146 (GLe.trans hl_218 hl_250)))), m, rfl, rfl⟩
     ·refine k_false f rfl hc_266 ?_
      refine k_skip ?_
      refine k_region ?_
      refine l_mv f rfl rfl fun a f => ?_
      refine l_in f rfl rfl rfl b_add fun a f => ?_
      refine l_as f rfl rfl fun a f => ?_
      refine l_nil ?_
      obtain rfl := sj hs_140
      exact ⟨_, rfl, _, rfl, _, (GLe.trans hl_146 (GLe.trans hl_218 hl_250)), f.weak ⟨rfl, rfl, rfl, trivial⟩, m⟩
   ·refine k_false f rfl hc_208 ?_
    refine k_exit rfl ?_
    obtain rfl := sj hs_140
    obtain rfl := hq_141 _ rfl
    exact ⟨_, rfl, _, hl_146, f.weak ⟨rfl, rfl, trivial⟩, m⟩
  ·rintro a w ⟨_, rfl, G_206, hl_207, f, m⟩
   have h0_0 := RSl.mono (RSl.mono (RI.mono _)) _ _ _ _ hl_207 h0_0
   refine k_seq (k_seq (k_region ?_))
   refine l_as f rfl rfl fun a f => ?_
   refine l_nil ?_
   obtain ⟨q_545, hl_546, hd⟩ := bind_some hd
   refine k_cut (fun a w => ∃ q_545' : Unit, q_545 = .inl q_545' ∧ ∃ (G_692 : GH), GLe G_206 G_692 ∧ Fr a 64 [] ∧ Mem W G_692 w (H)) ?_ ?_
   ·refine k_block ?_
    refine k_loop (fun s_549 a w => ∃ x_552 : Int, x_552 = s_549 ∧ ∃ (G_551 : GH), GLe G_206 G_551 ∧ Fr a 64 [(1, (.pointer (some ⟨b_2, 0, none⟩))), (3, (.int .i64 y_3)), (5, (.int .i64 x_552))] ∧ Mem W G_551 w (Itm.box b_2 29 [v0_0] :: H)) hl_546 ⟨_, rfl, _, (GLe.refl _), f.weak ⟨rfl, rfl, rfl, trivial⟩, m⟩ ?_
    clear hl_546 f m
    rintro s_549 o_550 hs_547 hq_548 a w ⟨x_552, rfl, G_551, hl_553, f, m⟩
    have h0_0 := RSl.mono (RSl.mono (RI.mono _)) _ _ _ _ hl_553 h0_0
    refine k_seq (k_seq (k_region ?_))
    refine l_mv f rfl rfl fun a f => ?_
    refine l_mv f rfl rfl fun a f => ?_
    refine l_in f rfl rfl rfl b_lss fun a f => ?_
    refine l_nil ?_
    rcases cond_some hs_547 with ⟨hc_694, hs_547⟩ | ⟨hc_694, hs_547⟩
    ·refine k_true f rfl hc_694 ?_
     refine k_skip ?_
     refine k_seq (k_block (k_seq (k_region ?_)))
     refine l_as f rfl rfl fun a f => ?_
     refine l_nil ?_
     obtain ⟨q_759, hl_760, hs_547⟩ := bind_some hs_547
     refine k_cut (fun a w => ∃ q_759' : Unit, q_759 = .inl q_759' ∧ ∃ (G_799 : GH), GLe G_551 G_799 ∧ Fr a 64 [(1, (.pointer (some ⟨b_2, 0, none⟩))), (3, (.int .i64 y_3)), (5, (.int .i64 x_552))] ∧ Mem W G_799 w (Itm.box b_2 29 [v0_0] :: H)) ?_ ?_
     ·refine k_block ?_
      refine k_loop (fun s_763 a w => ∃ x_766 : Int, x_766 = s_763 ∧ ∃ (G_765 : GH), GLe G_551 G_765 ∧ Fr a 64 [(1, (.pointer (some ⟨b_2, 0, none⟩))), (3, (.int .i64 y_3)), (5, (.int .i64 x_552)), (6, (.int .i64 x_766))] ∧ Mem W G_765 w (Itm.box b_2 29 [v0_0] :: H)) hl_760 ⟨_, rfl, _, (GLe.refl _), f.weak ⟨rfl, rfl, rfl, rfl, trivial⟩, m⟩ ?_
      clear hl_760 f m
      rintro s_763 o_764 hs_761 hq_762 a w ⟨x_766, rfl, G_765, hl_767, f, m⟩
      have h0_0 := RSl.mono (RSl.mono (RI.mono _)) _ _ _ _ hl_767 h0_0
      refine k_seq (k_seq (k_region ?_))
      refine l_mv f rfl rfl fun a f => ?_
      refine l_fieldAddr Tryd.underlying29 rfl Tryd.sizeOf27 (by decide) f rfl rfl fun a f => ?_
      refine l_boxCell 0 0 m Pl27 f rfl rfl rfl rfl fun a f => ?_
      refine l_mv f rfl rfl fun a f => ?_
      obtain ⟨e_801, he_802, hs_761⟩ := bind_some hs_761
      refine l_at T27 f rfl rfl rfl h0_0 he_802 fun p_803 c_804 a g_805 h_806 f => ?_
      refine l_loadAt m Pl31 f rfl rfl g_805 fun a f => ?_
      refine l_len Tryd.underlying31 f rfl rfl h_806 fun a f => ?_
      refine l_in f rfl rfl rfl b_lss fun a f => ?_
      refine l_nil ?_
      rcases cond_some hs_761 with ⟨hc_807, hs_761⟩ | ⟨hc_807, hs_761⟩
      ·refine k_true f rfl hc_807 ?_
       refine k_skip ?_
       refine k_seq (k_block (k_seq ?_))
       refine k_draw 15 Follows (by kernel_rfl) m ?_
       refine q_fieldAddr (i := 0) 15 Tryd.underlying29 rfl Tryd.sizeOf27 (by decide) rfl (by kernel_rfl) rfl f rfl rfl rfl fun a f => ?_
       refine q_boxCell (i := 1) 15 0 Pl27 rfl rfl rfl (by kernel_rfl) rfl f rfl rfl rfl fun a f => ?_
       refine q_fieldAddr (i := 2) 15 Tryd.underlying29 rfl Tryd.sizeOf27 (by decide) rfl (by kernel_rfl) rfl f rfl rfl rfl fun a f => ?_
       refine q_boxCell (i := 3) 15 0 Pl27 rfl rfl rfl (by kernel_rfl) rfl f rfl rfl rfl fun a f => ?_
       refine q_mv 4 15 rfl (by kernel_rfl) f rfl rfl rfl fun a f => ?_
       obtain ⟨e_808, he_809, hs_761⟩ := bind_some hs_761
       refine q_at (i := 5) 15 T27 h0_0 he_809 rfl (by kernel_rfl) rfl f rfl rfl rfl rfl fun p_810 c_811 a g_812 h_813 f => ?_
       refine q_loadAt (i := 6) 15 Pl31 g_812 rfl (by kernel_rfl) rfl f rfl rfl rfl fun a f => ?_
       refine q_mv 7 15 rfl (by kernel_rfl) f rfl rfl rfl fun a f => ?_
       obtain ⟨e_814, he_815, hs_761⟩ := bind_some hs_761
       refine q_at (i := 8) 15 T31 h_813 he_815 rfl (by kernel_rfl) rfl f rfl rfl rfl rfl fun p_816 c_817 a g_818 h_819 f => ?_
       subst h_819
       refine q_loadAt (i := 9) 15 Pl2 g_818 rfl (by kernel_rfl) rfl f rfl rfl rfl fun a f => ?_
       obtain ⟨e_820, he_821, hs_761⟩ := bind_some hs_761
       refine q_at (i := 10) 15 T27 h0_0 he_821 rfl (by kernel_rfl) rfl f rfl rfl rfl rfl fun p_822 c_823 a g_824 h_825 f => ?_
       refine q_loadAt (i := 11) 15 Pl31 g_824 rfl (by kernel_rfl) rfl f rfl rfl rfl fun a f => ?_
       refine q_mv 12 15 rfl (by kernel_rfl) f rfl rfl rfl fun a f => ?_
       obtain ⟨y_826, hy_827, hs_761⟩ := bind_some hs_761
       refine q_call (i := 13) 15 rfl (by kernel_rfl) rfl f rfl rfl rfl Tryd.call68 (fun _ _ w hG_828 m => Wk.spec_l1Has m (RSl.mono (RI.mono _) _ _ _ _ hG_828 h_825) hy_827) fun a f => ?_
       refine q_p 14 15 rfl (by kernel_rfl) f rfl rfl rfl (fun _ => r_not (f.eval rfl)) fun a f => ?_
       refine q_end fun G_829 w hl_830 m => ?_
       have h0_0 := RSl.mono (RSl.mono (RI.mono _)) _ _ _ _ hl_830 h0_0
       have g_812 := At.mono hl_830 g_812
       have h_813 := RSl.mono (RI.mono _) _ _ _ _ hl_830 h_813
       have g_818 := At.mono hl_830 g_818
       have g_824 := At.mono hl_830 g_824
       have h_825 := RSl.mono (RI.mono _) _ _ _ _ hl_830 h_825
       refine l_nil ?_
       rcases cond_some hs_761 with ⟨hc_831, hs_761⟩ | ⟨hc_831, hs_761⟩
       ·refine k_true f rfl hc_831 ?_
        refine k_seq (k_region ?_)
        refine l_as f rfl rfl fun a f => ?_
        refine l_nil ?_
        refine k_ret ?_
        have m : Mem W G_829 w H := Mem.drop (H' := [Itm.box b_2 29 [v0_0]]) m
        obtain rfl := sj hs_761
        obtain rfl := hq_762 _ rfl
        obtain rfl := sj hs_547
        obtain rfl := hq_548 _ rfl
        obtain rfl := sj hd
        exact ⟨[(.bool false)], ⟨f.get _ _ rfl, trivial⟩, f.defers, _, [], (GLe.trans hl_6 (GLe.trans hl_13 (GLe.trans hl_207 (GLe.trans hl_553 (GLe.trans hl_767 hl_830))))), m, rfl, rfl⟩
       ·refine k_false f rfl hc_831 ?_
        refine k_skip ?_
        refine k_region ?_
        refine l_mv f rfl rfl fun a f => ?_
        refine l_in f rfl rfl rfl b_add fun a f => ?_
        refine l_as f rfl rfl fun a f => ?_
        refine l_nil ?_
        obtain rfl := sj hs_761
        exact ⟨_, rfl, _, rfl, _, (GLe.trans hl_767 hl_830), f.weak ⟨rfl, rfl, rfl, rfl, trivial⟩, m⟩
      ·refine k_false f rfl hc_807 ?_
       refine k_exit rfl ?_
       obtain rfl := sj hs_761
       obtain rfl := hq_762 _ rfl
       exact ⟨_, rfl, _, hl_767, f.weak ⟨rfl, rfl, rfl, trivial⟩, m⟩
     ·rintro a w ⟨_, rfl, G_799, hl_800, f, m⟩
      have h0_0 := RSl.mono (RSl.mono (RI.mono _)) _ _ _ _ hl_800 h0_0
      refine k_region ?_
      refine l_mv f rfl rfl fun a f => ?_
      refine l_in f rfl rfl rfl b_add fun a f => ?_
      refine l_as f rfl rfl fun a f => ?_
      refine l_nil ?_
      obtain rfl := sj hs_547
      exact ⟨_, rfl, _, rfl, _, (GLe.trans hl_553 hl_800), f.weak ⟨rfl, rfl, rfl, trivial⟩, m⟩
    ·refine k_false f rfl hc_694 ?_
     refine k_exit rfl ?_
     have m : Mem W G_551 w H := Mem.drop (H' := [Itm.box b_2 29 [v0_0]]) m
     obtain rfl := sj hs_547
     obtain rfl := hq_548 _ rfl
     exact ⟨_, rfl, _, hl_553, f.weak trivial, m⟩
   ·rintro a w ⟨_, rfl, G_692, hl_693, f, m⟩
    refine k_seq (k_region ?_)
    refine l_as f rfl rfl fun a f => ?_
    refine l_nil ?_
    refine k_ret ?_
    obtain rfl := sj hd
    exact ⟨[(.bool true)], ⟨f.get _ _ rfl, trivial⟩, f.defers, _, [], (GLe.trans hl_6 (GLe.trans hl_13 (GLe.trans hl_207 hl_693))), m, rfl, rfl⟩

theorem Wk.spec_l16All {W w : World} {G : GH} {H : List Itm} {v0_0 : Value} {x0_0 : (List (List Int))} (m : Mem W G w (H)) (h0_0 : RSl (RSl (RI .i64)) G v0_0 x0_0) {y : ((List Int))} (hd : D.spec_l16All x0_0 = some y) :
  Calls Tryd.prog 107 #[(.agg #[v0_0])] w (Res W G H (fun G' Ho v => ∃ r0 : Value, ∃ i0 : Itm, Ho = [i0] ∧ r0 = v ∧ Ow (RI .i64) 2 G' i0 r0 y)) := by
 refine calls_b (args := [(.agg #[v0_0])]) (N := 18) [.tmp 2] Tryd.func107 rfl rfl (Nat.le_of_ble_eq_true rfl) rfl fun a f => ?_
 unfold D.spec_l16All at hd
 refine k_seq (k_region ?_)
 refine l_box (cs := [v0_0]) m f rfl rfl rfl fun b_2 w a m f => ?_
 refine l_as f rfl rfl fun a f => ?_
 refine l_nil (k_seq (k_region ?_))
 refine l_slit (R := (RI .i64)) (xs := ([] : List Int)) (RI.one _) m T31 f rfl rfl rfl (by decide) (All2.nil _) fun it_3 v_4 w a m o_5 f => ?_
 refine l_as f rfl rfl fun a f => ?_
 refine l_nil (k_seq (k_seq (k_region ?_)))
 refine l_as f rfl rfl fun a f => ?_
 refine l_nil ?_
 obtain ⟨q_36, hl_37, hd⟩ := bind_some hd
 refine k_cut (fun a w => ∃ l_62 : List Int, l_62 = q_36 ∧ ∃ (G_61 : GH) (v_63 : Value) (it_64 : Itm), GLe G G_61 ∧ Fr a 18 [(3, v_63)] ∧ Mem W G_61 w (it_64 :: H) ∧ Ow (RI .i64) 2 G_61 it_64 v_63 l_62) ?_ ?_
 ·refine k_block ?_
  have m := m.front 1 rfl
  refine k_loop (fun s_40 a w => ∃ l_43 : List Int, ∃ x_48 : Int, (l_43, x_48) = s_40 ∧ ∃ (G_42 : GH) (v_44 : Value) (it_45 : Itm), GLe G G_42 ∧ Fr a 18 [(1, (.pointer (some ⟨b_2, 0, none⟩))), (3, v_44), (4, (.int .i64 x_48))] ∧ Mem W G_42 w (Itm.box b_2 29 [v0_0] :: it_45 :: H) ∧ Ow (RI .i64) 2 G_42 it_45 v_44 l_43) hl_37 ⟨_, _, rfl, _, v_4, it_3, (GLe.refl _), f.weak ⟨rfl, rfl, rfl, trivial⟩, m, o_5⟩ ?_
  clear hl_37 f m
  rintro s_40 o_41 hs_38 hq_39 a w ⟨l_43, x_48, rfl, G_42, v_44, it_45, hl_49, f, m, o_46⟩
  have h0_0 := RSl.mono (RSl.mono (RI.mono _)) _ _ _ _ hl_49 h0_0
  refine k_seq (k_seq (k_region ?_))
  refine l_mv f rfl rfl fun a f => ?_
  refine l_fieldAddr Tryd.underlying29 rfl Tryd.sizeOf27 (by decide) f rfl rfl fun a f => ?_
  refine l_boxCell 0 0 m Pl27 f rfl rfl rfl rfl fun a f => ?_
  refine l_len Tryd.underlying27 f rfl rfl h0_0 fun a f => ?_
  refine l_in f rfl rfl rfl b_lss fun a f => ?_
  refine l_nil ?_
  rcases cond_some hs_38 with ⟨hc_68, hs_38⟩ | ⟨hc_68, hs_38⟩
  ·refine k_true f rfl hc_68 ?_
   refine k_skip ?_
   refine k_seq (k_block (k_region ?_))
   refine l_mv f rfl rfl fun a f => ?_
   refine l_mv f rfl rfl fun a f => ?_
   refine l_slit (R := (RI .i64)) (xs := ([x_48] : List Int)) (RI.one _) m T31 f rfl rfl rfl (by decide) (All2.cons rfl (All2.nil _)) fun it_69 v_70 w a m o_71 f => ?_
   obtain ⟨l_73, hx_74, hs_38⟩ := bind_some hs_38
   refine l_append (RI.one _) 2 m o_46 rfl T31 rfl (by decide) f rfl rfl rfl (Ow.src (j := 0) o_71 m rfl) hx_74 fun it_75 v_76 w a m o_77 f => ?_
   refine l_as f rfl rfl fun a f => ?_
   refine l_nil (k_region ?_)
   refine l_mv f rfl rfl fun a f => ?_
   refine l_in f rfl rfl rfl b_add fun a f => ?_
   refine l_as f rfl rfl fun a f => ?_
   refine l_nil ?_
   have m := m.front 2 rfl
   have m := m.front 2 rfl
   have m := m.eraseAt 2
   obtain rfl := sj hs_38
   exact ⟨_, rfl, _, _, rfl, _, v_76, it_75, hl_49, f.weak ⟨rfl, rfl, rfl, trivial⟩, m, o_77⟩
  ·refine k_false f rfl hc_68 ?_
   refine k_exit rfl ?_
   have m := m.front 1 rfl
   have m := m.eraseAt 1
   obtain rfl := sj hs_38
   obtain rfl := hq_39 _ rfl
   exact ⟨_, rfl, _, v_44, it_45, hl_49, f.weak ⟨rfl, trivial⟩, m, o_46⟩
 ·rintro a w ⟨l_62, rfl, G_61, v_63, it_64, hl_67, f, m, o_65⟩
  refine k_seq (k_region ?_)
  refine l_mv f rfl rfl fun a f => ?_
  refine l_as f rfl rfl fun a f => ?_
  refine l_nil ?_
  refine k_ret ?_
  obtain rfl := sj hd
  exact ⟨[v_63], ⟨f.get _ _ rfl, trivial⟩, f.defers, _, [it_64], hl_67, m, _, _, rfl, rfl, o_65⟩

theorem Wk.spec_l18Near {W w : World} {G : GH} {H : List Itm} {v0_0 : Value} {v1 : Value} {x0_0 : (List (List Int))} {x1 : (List Int)} {x2 : Int} {x3 : Int} (m : Mem W G w (H)) (h0_0 : RSl (RSl (RI .i64)) G v0_0 x0_0) (h1 : RSl (RI .i64) G v1 x1) {y : ((List Int))} (hd : D.spec_l18Near x0_0 x1 x2 x3 = some y) :
  Calls Tryd.prog 125 #[(.agg #[v0_0]), v1, (.int .i64 x2), (.int .i64 x3)] w (Res W G H (fun G' Ho v => ∃ r0 : Value, ∃ i0 : Itm, Ho = [i0] ∧ r0 = v ∧ Ow (RI .i64) 2 G' i0 r0 y)) := by
 refine calls_b (args := [(.agg #[v0_0]), v1, (.int .i64 x2), (.int .i64 x3)]) (N := 44) [.tmp 8] Tryd.func125 rfl rfl (Nat.le_of_ble_eq_true rfl) rfl fun a f => ?_
 unfold D.spec_l18Near at hd
 refine k_seq (k_region ?_)
 refine l_box (cs := [v0_0]) m f rfl rfl rfl fun b_2 w a m f => ?_
 refine l_as f rfl rfl fun a f => ?_
 refine l_nil (k_seq (k_region ?_))
 refine l_slit (R := (RI .i64)) (xs := ([] : List Int)) (RI.one _) m T31 f rfl rfl rfl (by decide) (All2.nil _) fun it_3 v_4 w a m o_5 f => ?_
 refine l_as f rfl rfl fun a f => ?_
 refine l_nil (k_seq (k_seq (k_region ?_)))
 refine l_as f rfl rfl fun a f => ?_
 refine l_nil ?_
 obtain ⟨q_126, hl_127, hd⟩ := bind_some hd
 refine k_cut (fun a w => ∃ l_197 : List Int, l_197 = q_126 ∧ ∃ (G_196 : GH) (v_198 : Value) (it_199 : Itm), GLe G G_196 ∧ Fr a 44 [(9, v_198)] ∧ Mem W G_196 w (it_199 :: H) ∧ Ow (RI .i64) 2 G_196 it_199 v_198 l_197) ?_ ?_
 ·refine k_block ?_
  have m := m.front 1 rfl
  refine k_loop (fun s_130 a w => ∃ l_133 : List Int, ∃ x_138 : Int, (l_133, x_138) = s_130 ∧ ∃ (G_132 : GH) (v_134 : Value) (it_135 : Itm), GLe G G_132 ∧ Fr a 44 [(1, v1), (2, (.int .i64 x2)), (3, (.int .i64 x3)), (4, (.pointer (some ⟨b_2, 0, none⟩))), (9, v_134), (10, (.int .i64 x_138))] ∧ Mem W G_132 w (Itm.box b_2 29 [v0_0] :: it_135 :: H) ∧ Ow (RI .i64) 2 G_132 it_135 v_134 l_133) hl_127 ⟨_, _, rfl, _, v_4, it_3, (GLe.refl _), f.weak ⟨rfl, rfl, rfl, rfl, rfl, rfl, trivial⟩, m, o_5⟩ ?_
  clear hl_127 f m
  rintro s_130 o_131 hs_128 hq_129 a w ⟨l_133, x_138, rfl, G_132, v_134, it_135, hl_139, f, m, o_136⟩
  have h1 := RSl.mono (RI.mono _) _ _ _ _ hl_139 h1
  have h0_0 := RSl.mono (RSl.mono (RI.mono _)) _ _ _ _ hl_139 h0_0
  refine k_seq (k_seq (k_region ?_))
  refine l_mv f rfl rfl fun a f => ?_
  refine l_fieldAddr Tryd.underlying29 rfl Tryd.sizeOf27 (by decide) f rfl rfl fun a f => ?_
  refine l_boxCell 0 0 m Pl27 f rfl rfl rfl rfl fun a f => ?_
  refine l_mv f rfl rfl fun a f => ?_
  obtain ⟨e_203, he_204, hs_128⟩ := bind_some hs_128
  refine l_at T27 f rfl rfl rfl h0_0 he_204 fun p_205 c_206 a g_207 h_208 f => ?_
  refine l_loadAt m Pl31 f rfl rfl g_207 fun a f => ?_
  refine l_len Tryd.underlying31 f rfl rfl h_208 fun a f => ?_
  refine l_in f rfl rfl rfl b_lss fun a f => ?_
  refine l_nil ?_
  rcases cond_some hs_128 with ⟨hc_209, hs_128⟩ | ⟨hc_209, hs_128⟩
  ·refine k_true f rfl hc_209 ?_
   refine k_skip ?_
   refine k_seq (k_block (k_seq (k_region ?_)))
   refine l_fieldAddr Tryd.underlying29 rfl Tryd.sizeOf27 (by decide) f rfl rfl fun a f => ?_
   refine l_boxCell 0 0 m Pl27 f rfl rfl rfl rfl fun a f => ?_
   refine l_mv f rfl rfl fun a f => ?_
   obtain ⟨e_210, he_211, hs_128⟩ := bind_some hs_128
   refine l_at T27 f rfl rfl rfl h0_0 he_211 fun p_212 c_213 a g_214 h_215 f => ?_
   refine l_loadAt m Pl31 f rfl rfl g_214 fun a f => ?_
   refine l_mv f rfl rfl fun a f => ?_
   obtain ⟨e_216, he_217, hs_128⟩ := bind_some hs_128
   refine l_at T31 f rfl rfl rfl h_215 he_217 fun p_218 c_219 a g_220 h_221 f => ?_
   subst h_221
   refine l_loadAt m Pl2 f rfl rfl g_220 fun a f => ?_
   refine l_as f rfl rfl fun a f => ?_
   refine l_nil (k_seq (k_region ?_))
   refine l_mv f rfl rfl fun a f => ?_
   refine l_mv f rfl rfl fun a f => ?_
   refine l_in f rfl rfl rfl b_neq fun a f => ?_
   refine l_mv f rfl rfl fun a f => ?_
   obtain ⟨b_239, hj_240, hs_128⟩ := bind_some hs_128
   refine l_cut 4 (fun a w => ∃ G_237, GLe G_132 G_237 ∧ Mem W G_237 w (Itm.box b_2 29 [v0_0] :: it_135 :: H) ∧ Fr a 44 [(1, v1), (2, (.int .i64 x2)), (3, (.int .i64 x3)), (4, (.pointer (some ⟨b_2, 0, none⟩))), (9, v_134), (10, (.int .i64 x_138)), (11, (.int .i64 e_216)), (31, (.int .i64 e_216)), (32, (.int .i64 x3)), (33, (.bool (e_216 != x3))), (34, (.bool (e_216 != x3))), (38, (.bool b_239))]) ?_ ?_
   ·rcases cond_some hj_240 with ⟨hc_222, hj_240⟩ | ⟨hc_222, hj_240⟩
    ·refine l_run f rfl rfl hc_222 ?_
     refine l_mv f rfl rfl fun a f => ?_
     refine l_run f rfl rfl hc_222 ?_
     refine l_mv f rfl rfl fun a f => ?_
     refine l_run f rfl rfl hc_222 ?_
     obtain ⟨y_241, hy_242, hj_240⟩ := bind_some hj_240
     refine l_res f rfl rfl Tryd.call68 (Wk.spec_l1Has m h1 hy_242) fun v_246 G_243 Ho_247 w hl_244 m hQ_245 a f => ?_
     obtain ⟨rfl, rfl⟩ := hQ_245
     have h1 := RSl.mono (RI.mono _) _ _ _ _ hl_244 h1
     have h0_0 := RSl.mono (RSl.mono (RI.mono _)) _ _ _ _ hl_244 h0_0
     have o_136 := Ow.mono (RI.mono _) hl_244 o_136
     refine l_op f rfl rfl rfl (r_pickT (f.eval rfl) hc_222 (f.eval rfl)) fun a f => ?_
     obtain rfl := sj hj_240
     have m := m.front 1 rfl
     have m := m.front 1 rfl
     exact ⟨_, hl_244, m, f.weak ⟨rfl, rfl, rfl, rfl, rfl, rfl, rfl, rfl, rfl, rfl, rfl, rfl, trivial⟩⟩
    ·refine l_not' f rfl rfl rfl hc_222 fun a f => ?_
     refine l_not' f rfl rfl rfl hc_222 fun a f => ?_
     refine l_not' f rfl rfl rfl hc_222 fun a f => ?_
     refine l_op f rfl rfl rfl (r_pickF (f.eval rfl) hc_222 (f.eval rfl)) fun a f => ?_
     obtain rfl := sj hj_240
     have m := m.front 1 rfl
     have m := m.front 1 rfl
     exact ⟨_, (GLe.refl _), m, f.weak ⟨rfl, rfl, rfl, rfl, rfl, rfl, rfl, rfl, rfl, rfl, rfl, rfl, trivial⟩⟩
   ·rintro a w ⟨G_237, hl_238, m, f⟩
    have h1 := RSl.mono (RI.mono _) _ _ _ _ hl_238 h1
    have h0_0 := RSl.mono (RSl.mono (RI.mono _)) _ _ _ _ hl_238 h0_0
    have o_136 := Ow.mono (RI.mono _) hl_238 o_136
    refine l_nil ?_
    rcases cond_some hs_128 with ⟨hc_248, hs_128⟩ | ⟨hc_248, hs_128⟩
    ·refine k_true f rfl hc_248 ?_
     refine k_region ?_
     refine l_mv f rfl rfl fun a f => ?_
     refine l_mv f rfl rfl fun a f => ?_
     refine l_slit (R := (RI .i64)) (xs := ([e_216] : List Int)) (RI.one _) m T31 f rfl rfl rfl (by decide) (All2.cons rfl (All2.nil _)) fun it_249 v_250 w a m o_251 f => ?_
     obtain ⟨l_253, hx_254, hs_128⟩ := bind_some hs_128
     refine l_append (RI.one _) 2 m o_136 rfl T31 rfl (by decide) f rfl rfl rfl (Ow.src (j := 0) o_251 m rfl) hx_254 fun it_255 v_256 w a m o_257 f => ?_
     refine l_as f rfl rfl fun a f => ?_
     refine l_nil (k_region ?_)
     refine l_mv f rfl rfl fun a f => ?_
     refine l_in f rfl rfl rfl b_add fun a f => ?_
     refine l_as f rfl rfl fun a f => ?_
     refine l_nil ?_
     have m := m.front 2 rfl
     have m := m.front 2 rfl
     have m := m.eraseAt 2
     obtain rfl := sj hs_128
     exact ⟨_, rfl, _, _, rfl, _, v_256, it_255, (GLe.trans hl_139 hl_238), f.weak ⟨rfl, rfl, rfl, rfl, rfl, rfl, trivial⟩, m, o_257⟩
    ·refine k_false f rfl hc_248 ?_
     refine k_skip ?_
     refine k_region ?_
     refine l_mv f rfl rfl fun a f => ?_
     refine l_in f rfl rfl rfl b_add fun a f => ?_
     refine l_as f rfl rfl fun a f => ?_
     refine l_nil ?_
     have m := m.front 1 rfl
     have m := m.front 1 rfl
     obtain rfl := sj hs_128
     exact ⟨_, rfl, _, _, rfl, _, v_134, it_135, (GLe.trans hl_139 hl_238), f.weak ⟨rfl, rfl, rfl, rfl, rfl, rfl, trivial⟩, m, o_136⟩
  ·refine k_false f rfl hc_209 ?_
   refine k_exit rfl ?_
   have m := m.front 1 rfl
   have m := m.eraseAt 1
   obtain rfl := sj hs_128
   obtain rfl := hq_129 _ rfl
   exact ⟨_, rfl, _, v_134, it_135, hl_139, f.weak ⟨rfl, trivial⟩, m, o_136⟩
 ·rintro a w ⟨l_197, rfl, G_196, v_198, it_199, hl_202, f, m, o_200⟩
  refine k_seq (k_region ?_)
  refine l_mv f rfl rfl fun a f => ?_
  refine l_as f rfl rfl fun a f => ?_
  refine l_nil ?_
  refine k_ret ?_
  obtain rfl := sj hd
  exact ⟨[v_198], ⟨f.get _ _ rfl, trivial⟩, f.defers, _, [it_199], hl_202, m, _, _, rfl, rfl, o_200⟩

theorem Wk.spec_l1Same {W w : World} {G : GH} {H : List Itm} {v0 : Value} {v1 : Value} {x0 : (List Int)} {x1 : (List Int)} (m : Mem W G w (H)) (h0 : RSl (RI .i64) G v0 x0) (h1 : RSl (RI .i64) G v1 x1) {y : Bool} (hd : D.spec_l1Same x0 x1 = some y) :
  Calls Tryd.prog 126 #[v0, v1] w (Res W G H (fun _ Ho v => Ho = [] ∧ v = (.bool y))) := by
 refine calls_b (args := [v0, v1]) (N := 26) [.tmp 4] Tryd.func126 rfl rfl (Nat.le_of_ble_eq_true rfl) rfl fun a f => ?_
 unfold D.spec_l1Same at hd
 refine k_seq (k_region ?_)
 refine l_as f rfl rfl fun a f => ?_
 refine l_nil (k_seq (k_seq (k_region ?_)))
 refine l_mv f rfl rfl fun a f => ?_
 refine l_len Tryd.underlying31 f rfl rfl h0 fun a f => ?_
 refine l_mv f rfl rfl fun a f => ?_
 refine l_len Tryd.underlying31 f rfl rfl h1 fun a f => ?_
 refine l_in f rfl rfl rfl b_neq fun a f => ?_
 refine l_nil ?_
 rcases cond_some hd with ⟨hc_1, hd⟩ | ⟨hc_1, hd⟩
 ·refine k_true f rfl hc_1 ?_
  refine k_seq (k_region ?_)
  refine l_as f rfl rfl fun a f => ?_
  refine l_nil ?_
  refine k_ret ?_
  obtain rfl := sj hd
  exact ⟨[(.bool false)], ⟨f.get _ _ rfl, trivial⟩, f.defers, _, [], (GLe.refl _), m, rfl, rfl⟩
 ·refine k_false f rfl hc_1 ?_
  refine k_skip ?_
  refine k_seq (k_seq (k_region ?_))
  refine l_as f rfl rfl fun a f => ?_
  refine l_nil ?_
  obtain ⟨q_36, hl_37, hd⟩ := bind_some hd
  refine k_cut (fun a w => ∃ q_36' : Unit, q_36 = .inl q_36' ∧ ∃ (G_61 : GH), GLe G G_61 ∧ Fr a 26 [] ∧ Mem W G_61 w (H)) ?_ ?_
  ·refine k_block ?_
   refine k_loop (fun s_40 a w => ∃ x_43 : Int, x_43 = s_40 ∧ ∃ (G_42 : GH), GLe G G_42 ∧ Fr a 26 [(0, v0), (1, v1), (5, (.int .i64 x_43))] ∧ Mem W G_42 w (H)) hl_37 ⟨_, rfl, _, (GLe.refl _), f.weak ⟨rfl, rfl, rfl, trivial⟩, m⟩ ?_
   clear hl_37 f m
   rintro s_40 o_41 hs_38 hq_39 a w ⟨x_43, rfl, G_42, hl_44, f, m⟩
   have h0 := RSl.mono (RI.mono _) _ _ _ _ hl_44 h0
   have h1 := RSl.mono (RI.mono _) _ _ _ _ hl_44 h1
   refine k_seq (k_seq (k_region ?_))
   refine l_mv f rfl rfl fun a f => ?_
   refine l_mv f rfl rfl fun a f => ?_
   refine l_len Tryd.underlying31 f rfl rfl h0 fun a f => ?_
   refine l_in f rfl rfl rfl b_lss fun a f => ?_
   refine l_nil ?_
   rcases cond_some hs_38 with ⟨hc_63, hs_38⟩ | ⟨hc_63, hs_38⟩
   ·refine k_true f rfl hc_63 ?_
    refine k_skip ?_
    refine k_seq (k_block (k_seq ?_))
    refine k_draw 9 Follows (by kernel_rfl) m ?_
    refine q_mv 0 9 rfl (by kernel_rfl) f rfl rfl rfl fun a f => ?_
    refine q_mv 1 9 rfl (by kernel_rfl) f rfl rfl rfl fun a f => ?_
    obtain ⟨e_64, he_65, hs_38⟩ := bind_some hs_38
    refine q_at (i := 2) 9 T31 h0 he_65 rfl (by kernel_rfl) rfl f rfl rfl rfl rfl fun p_66 c_67 a g_68 h_69 f => ?_
    subst h_69
    refine q_loadAt (i := 3) 9 Pl2 g_68 rfl (by kernel_rfl) rfl f rfl rfl rfl fun a f => ?_
    refine q_mv 4 9 rfl (by kernel_rfl) f rfl rfl rfl fun a f => ?_
    refine q_mv 5 9 rfl (by kernel_rfl) f rfl rfl rfl fun a f => ?_
    obtain ⟨e_70, he_71, hs_38⟩ := bind_some hs_38
    refine q_at (i := 6) 9 T31 h1 he_71 rfl (by kernel_rfl) rfl f rfl rfl rfl rfl fun p_72 c_73 a g_74 h_75 f => ?_
    subst h_75
    refine q_loadAt (i := 7) 9 Pl2 g_74 rfl (by kernel_rfl) rfl f rfl rfl rfl fun a f => ?_
    refine q_p 8 9 rfl (by kernel_rfl) f rfl rfl rfl (fun _ => r_int (f.eval rfl) (f.eval rfl) b_neq) fun a f => ?_
    refine q_end fun G_76 w hl_77 m => ?_
    have h0 := RSl.mono (RI.mono _) _ _ _ _ hl_77 h0
    have h1 := RSl.mono (RI.mono _) _ _ _ _ hl_77 h1
    have g_68 := At.mono hl_77 g_68
    have g_74 := At.mono hl_77 g_74
    refine l_nil ?_
    rcases cond_some hs_38 with ⟨hc_78, hs_38⟩ | ⟨hc_78, hs_38⟩
    ·refine k_true f rfl hc_78 ?_
     refine k_seq (k_region ?_)
     refine l_as f rfl rfl fun a f => ?_
     refine l_nil ?_
     refine k_ret ?_
     obtain rfl := sj hs_38
     obtain rfl := hq_39 _ rfl
     obtain rfl := sj hd
     exact ⟨[(.bool false)], ⟨f.get _ _ rfl, trivial⟩, f.defers, _, [], (GLe.trans hl_44 hl_77), m, rfl, rfl⟩
    ·refine k_false f rfl hc_78 ?_
     refine k_skip ?_
     refine k_region ?_
     refine l_mv f rfl rfl fun a f => ?_
     refine l_in f rfl rfl rfl b_add fun a f => ?_
     refine l_as f rfl rfl fun a f => ?_
     refine l_nil ?_
     obtain rfl := sj hs_38
     exact ⟨_, rfl, _, rfl, _, (GLe.trans hl_44 hl_77), f.weak ⟨rfl, rfl, rfl, trivial⟩, m⟩
   ·refine k_false f rfl hc_63 ?_
    refine k_exit rfl ?_
    obtain rfl := sj hs_38
    obtain rfl := hq_39 _ rfl
    exact ⟨_, rfl, _, hl_44, f.weak trivial, m⟩
  ·rintro a w ⟨_, rfl, G_61, hl_62, f, m⟩
   refine k_seq (k_region ?_)
   refine l_as f rfl rfl fun a f => ?_
   refine l_nil ?_
   refine k_ret ?_
   obtain rfl := sj hd
   exact ⟨[(.bool true)], ⟨f.get _ _ rfl, trivial⟩, f.defers, _, [], hl_62, m, rfl, rfl⟩

theorem Wk.spec_l18Goes {W w : World} {G : GH} {H : List Itm} {v0_0 : Value} {v1 : Value} {x0_0 : (List (List Int))} {x1 : (List Int)} {x2_0 : Int} {x2_1 : Int} {x2_2 : Int} (m : Mem W G w (H)) (h0_0 : RSl (RSl (RI .i64)) G v0_0 x0_0) (h1 : RSl (RI .i64) G v1 x1) {y : Bool} (hd : D.spec_l18Goes x0_0 x1 x2_0 x2_1 x2_2 = some y) :
  Calls Tryd.prog 108 #[(.agg #[v0_0]), v1, (.agg #[(.int .i64 x2_0), (.int .i64 x2_1), (.int .i64 x2_2)])] w (Res W G H (fun _ Ho v => Ho = [] ∧ v = (.bool y))) := by
 refine calls_b (args := [(.agg #[v0_0]), v1, (.agg #[(.int .i64 x2_0), (.int .i64 x2_1), (.int .i64 x2_2)])]) (N := 87) [.tmp 6] Tryd.func108 rfl rfl (Nat.le_of_ble_eq_true rfl) rfl fun a f => ?_
 unfold D.spec_l18Goes at hd
 refine k_seq (k_region ?_)
 refine l_box (cs := [v0_0]) m f rfl rfl rfl fun b_2 w a m f => ?_
 refine l_box (cs := [(.int .i64 x2_0), (.int .i64 x2_1), (.int .i64 x2_2)]) m f rfl rfl rfl fun b_4 w a m f => ?_
 refine l_as f rfl rfl fun a f => ?_
 refine l_nil (k_seq (k_region ?_))
 refine l_boxAgg 1 0 (ds := [v0_0]) m Ag29 f rfl rfl rfl rfl rfl fun a f => ?_
 refine l_mv f rfl rfl fun a f => ?_
 refine l_fieldAddr Tryd.underlying83 rfl Tryd.sizeOf2 (by decide) f rfl rfl fun a f => ?_
 refine l_boxCell 0 0 m Pl2 f rfl rfl rfl rfl fun a f => ?_
 refine l_fieldAddr Tryd.underlying83 rfl Tryd.sizeOf2 (by decide) f rfl rfl fun a f => ?_
 refine l_boxCell 0 1 m Pl2 f rfl rfl rfl rfl fun a f => ?_
 obtain ⟨y_5, hy_6, hd⟩ := bind_some hd
 refine l_res f rfl rfl Tryd.call125 (Wk.spec_l18Near m h0_0 h1 hy_6) fun v_10 G_7 Ho_11 w hl_8 m hQ_9 a f => ?_
 obtain ⟨v_12, it_13, rfl, rfl, o_14⟩ := hQ_9
 have h0_0 := RSl.mono (RSl.mono (RI.mono _)) _ _ _ _ hl_8 h0_0
 have h1 := RSl.mono (RI.mono _) _ _ _ _ hl_8 h1
 refine l_as f rfl rfl fun a f => ?_
 refine l_nil (k_seq (k_seq (k_region ?_)))
 refine l_fieldAddr Tryd.underlying83 rfl Tryd.sizeOf2 (by decide) f rfl rfl fun a f => ?_
 refine l_boxCell 1 2 m Pl2 f rfl rfl rfl rfl fun a f => ?_
 refine l_in f rfl rfl rfl b_eql fun a f => ?_
 refine l_nil ?_
 rcases cond_some hd with ⟨hc_16, hd⟩ | ⟨hc_16, hd⟩
 ·refine k_true f rfl hc_16 ?_
  refine k_seq (k_region ?_)
  refine l_fieldAddr Tryd.underlying83 rfl Tryd.sizeOf2 (by decide) f rfl rfl fun a f => ?_
  refine l_boxCell 1 1 m Pl2 f rfl rfl rfl rfl fun a f => ?_
  refine l_in f rfl rfl rfl b_eql fun a f => ?_
  refine l_mv f rfl rfl fun a f => ?_
  refine l_cut 4 (fun a w => ∃ G_18, GLe G_7 G_18 ∧ Mem W G_18 w (it_13 :: Itm.box b_4 83 [(.int .i64 x2_0), (.int .i64 x2_1), (.int .i64 x2_2)] :: Itm.box b_2 29 [v0_0] :: H) ∧ Fr a 87 [(0, (.agg #[v0_0])), (1, v1), (2, (.agg #[(.int .i64 x2_0), (.int .i64 x2_1), (.int .i64 x2_2)])), (3, (.pointer (some ⟨b_2, 0, none⟩))), (5, (.pointer (some ⟨b_4, 0, none⟩))), (7, v_12), (18, (.bool (x2_2 == 1))), (19, (.pointer (some ⟨b_4, 1, none⟩))), (20, (.int .i64 x2_1)), (21, (.bool (x2_1 == (-1)))), (22, (.bool (x2_1 == (-1)))), (26, (.bool ((x2_1 == (-1)) && ((y_5.length : Int) == 0))))]) ?_ ?_
  ·rcases Bool.eq_false_or_eq_true (x2_1 == (-1)) with hc_17 | hc_17
   ·refine l_run f rfl rfl hc_17 ?_
    refine l_mv f rfl rfl fun a f => ?_
    refine l_run f rfl rfl hc_17 ?_
    refine l_own_len 0 m o_14 rfl Tryd.underlying31 f rfl rfl fun a f => ?_
    refine l_run f rfl rfl hc_17 ?_
    refine l_in f rfl rfl rfl b_eql fun a f => ?_
    refine l_op f rfl rfl rfl (r_pickT (f.eval rfl) hc_17 (f.eval rfl)) fun a f => ?_
    have m := m.front 2 rfl
    have m := m.front 2 rfl
    have m := m.front 2 rfl
    exact ⟨_, (GLe.refl _), m, f.weak ⟨rfl, rfl, rfl, rfl, rfl, rfl, rfl, rfl, rfl, rfl, rfl, by rw [hc_17]; rfl, trivial⟩⟩
   ·refine l_not' f rfl rfl rfl hc_17 fun a f => ?_
    refine l_not' f rfl rfl rfl hc_17 fun a f => ?_
    refine l_not' f rfl rfl rfl hc_17 fun a f => ?_
    refine l_op f rfl rfl rfl (r_pickF (f.eval rfl) hc_17 (f.eval rfl)) fun a f => ?_
    have m := m.front 2 rfl
    have m := m.front 2 rfl
    have m := m.front 2 rfl
    exact ⟨_, (GLe.refl _), m, f.weak ⟨rfl, rfl, rfl, rfl, rfl, rfl, rfl, rfl, rfl, rfl, rfl, by rw [hc_17]; rfl, trivial⟩⟩
  ·rintro a w ⟨G_18, hl_19, m, f⟩
   have h0_0 := RSl.mono (RSl.mono (RI.mono _)) _ _ _ _ hl_19 h0_0
   have h1 := RSl.mono (RI.mono _) _ _ _ _ hl_19 h1
   have o_14 := Ow.mono (RI.mono _) hl_19 o_14
   refine l_as f rfl rfl fun a f => ?_
   refine l_nil ?_
   refine k_ret ?_
   have m : Mem W G_18 w H := Mem.drop (H' := [it_13, Itm.box b_4 83 [(.int .i64 x2_0), (.int .i64 x2_1), (.int .i64 x2_2)], Itm.box b_2 29 [v0_0]]) m
   obtain rfl := sj hd
   exact ⟨[(.bool ((x2_1 == (-1)) && ((y_5.length : Int) == 0)))], ⟨f.get _ _ rfl, trivial⟩, f.defers, _, [], (GLe.trans hl_8 hl_19), m, rfl, rfl⟩
 ·refine k_false f rfl hc_16 ?_
  refine k_skip ?_
  refine k_seq (k_seq (k_region ?_))
  refine l_fieldAddr Tryd.underlying83 rfl Tryd.sizeOf2 (by decide) f rfl rfl fun a f => ?_
  refine l_boxCell 1 1 m Pl2 f rfl rfl rfl rfl fun a f => ?_
  refine l_fieldAddr Tryd.underlying83 rfl Tryd.sizeOf2 (by decide) f rfl rfl fun a f => ?_
  refine l_boxCell 1 0 m Pl2 f rfl rfl rfl rfl fun a f => ?_
  refine l_in f rfl rfl rfl b_eql fun a f => ?_
  refine l_mv f rfl rfl fun a f => ?_
  obtain ⟨b_37, hj_38, hd⟩ := bind_some hd
  refine l_cut 6 (fun a w => ∃ G_35, GLe G_7 G_35 ∧ Mem W G_35 w (it_13 :: Itm.box b_4 83 [(.int .i64 x2_0), (.int .i64 x2_1), (.int .i64 x2_2)] :: Itm.box b_2 29 [v0_0] :: H) ∧ Fr a 87 [(0, (.agg #[v0_0])), (1, v1), (2, (.agg #[(.int .i64 x2_0), (.int .i64 x2_1), (.int .i64 x2_2)])), (3, (.pointer (some ⟨b_2, 0, none⟩))), (5, (.pointer (some ⟨b_4, 0, none⟩))), (7, v_12), (18, (.bool (x2_2 == 1))), (27, (.pointer (some ⟨b_4, 1, none⟩))), (28, (.int .i64 x2_1)), (29, (.pointer (some ⟨b_4, 0, none⟩))), (30, (.int .i64 x2_0)), (31, (.bool (x2_1 == x2_0))), (32, (.bool (x2_1 == x2_0))), (38, (.bool b_37))]) ?_ ?_
  ·rcases cond_some hj_38 with ⟨hc_20, hj_38⟩ | ⟨hc_20, hj_38⟩
   ·refine l_not' f rfl rfl rfl hc_20 fun a f => ?_
    refine l_not' f rfl rfl rfl hc_20 fun a f => ?_
    refine l_not' f rfl rfl rfl hc_20 fun a f => ?_
    refine l_not' f rfl rfl rfl hc_20 fun a f => ?_
    refine l_not' f rfl rfl rfl hc_20 fun a f => ?_
    refine l_op f rfl rfl rfl (r_pickT (f.eval rfl) hc_20 (f.eval rfl)) fun a f => ?_
    obtain rfl := sj hj_38
    have m := m.front 2 rfl
    have m := m.front 2 rfl
    have m := m.front 2 rfl
    exact ⟨_, (GLe.refl _), m, f.weak ⟨rfl, rfl, rfl, rfl, rfl, rfl, rfl, rfl, rfl, rfl, rfl, rfl, rfl, rfl, trivial⟩⟩
   ·refine l_run f rfl rfl hc_20 ?_
    refine l_mv f rfl rfl fun a f => ?_
    refine l_run f rfl rfl hc_20 ?_
    refine l_fieldAddr Tryd.underlying83 rfl Tryd.sizeOf2 (by decide) f rfl rfl fun a f => ?_
    refine l_run f rfl rfl hc_20 ?_
    refine l_boxCell 1 1 m Pl2 f rfl rfl rfl rfl fun a f => ?_
    refine l_run f rfl rfl hc_20 ?_
    obtain ⟨y_39, hy_40, hj_38⟩ := bind_some hj_38
    refine l_res f rfl rfl Tryd.call68 (Wk.spec_l1Has m h1 hy_40) fun v_44 G_41 Ho_45 w hl_42 m hQ_43 a f => ?_
    obtain ⟨rfl, rfl⟩ := hQ_43
    have h0_0 := RSl.mono (RSl.mono (RI.mono _)) _ _ _ _ hl_42 h0_0
    have h1 := RSl.mono (RI.mono _) _ _ _ _ hl_42 h1
    have o_14 := Ow.mono (RI.mono _) hl_42 o_14
    refine l_run f rfl rfl hc_20 ?_
    refine l_op f rfl rfl rfl (r_not (f.eval rfl)) fun a f => ?_
    refine l_op f rfl rfl rfl (r_pickF (f.eval rfl) hc_20 (f.eval rfl)) fun a f => ?_
    obtain rfl := sj hj_38
    have m := m.front 2 rfl
    have m := m.front 2 rfl
    have m := m.front 2 rfl
    exact ⟨_, hl_42, m, f.weak ⟨rfl, rfl, rfl, rfl, rfl, rfl, rfl, rfl, rfl, rfl, rfl, rfl, rfl, rfl, trivial⟩⟩
  ·rintro a w ⟨G_35, hl_36, m, f⟩
   have h0_0 := RSl.mono (RSl.mono (RI.mono _)) _ _ _ _ hl_36 h0_0
   have h1 := RSl.mono (RI.mono _) _ _ _ _ hl_36 h1
   have o_14 := Ow.mono (RI.mono _) hl_36 o_14
   refine l_nil ?_
   rcases cond_some hd with ⟨hc_46, hd⟩ | ⟨hc_46, hd⟩
   ·refine k_true f rfl hc_46 ?_
    refine k_seq (k_region ?_)
    refine l_as f rfl rfl fun a f => ?_
    refine l_nil ?_
    refine k_ret ?_
    have m : Mem W G_35 w H := Mem.drop (H' := [it_13, Itm.box b_4 83 [(.int .i64 x2_0), (.int .i64 x2_1), (.int .i64 x2_2)], Itm.box b_2 29 [v0_0]]) m
    obtain rfl := sj hd
    exact ⟨[(.bool false)], ⟨f.get _ _ rfl, trivial⟩, f.defers, _, [], (GLe.trans hl_8 hl_36), m, rfl, rfl⟩
   ·refine k_false f rfl hc_46 ?_
    refine k_skip ?_
    refine k_seq ?_
    refine k_draw 10 Follows (by kernel_rfl) m ?_
    refine q_fieldAddr (i := 0) 10 Tryd.underlying29 rfl Tryd.sizeOf27 (by decide) rfl (by kernel_rfl) rfl f rfl rfl rfl fun a f => ?_
    refine q_boxCell (i := 1) 10 2 Pl27 rfl rfl rfl (by kernel_rfl) rfl f rfl rfl rfl fun a f => ?_
    refine q_fieldAddr (i := 2) 10 Tryd.underlying83 rfl Tryd.sizeOf2 (by decide) rfl (by kernel_rfl) rfl f rfl rfl rfl fun a f => ?_
    refine q_boxCell (i := 3) 10 1 Pl2 rfl rfl rfl (by kernel_rfl) rfl f rfl rfl rfl fun a f => ?_
    obtain ⟨e_47, he_48, hd⟩ := bind_some hd
    refine q_at (i := 4) 10 T27 h0_0 he_48 rfl (by kernel_rfl) rfl f rfl rfl rfl rfl fun p_49 c_50 a g_51 h_52 f => ?_
    refine q_loadAt (i := 5) 10 Pl31 g_51 rfl (by kernel_rfl) rfl f rfl rfl rfl fun a f => ?_
    refine q_fieldAddr (i := 6) 10 Tryd.underlying83 rfl Tryd.sizeOf2 (by decide) rfl (by kernel_rfl) rfl f rfl rfl rfl fun a f => ?_
    refine q_boxCell (i := 7) 10 1 Pl2 rfl rfl rfl (by kernel_rfl) rfl f rfl rfl rfl fun a f => ?_
    obtain ⟨y_53, hy_54, hd⟩ := bind_some hd
    refine q_call (i := 8) 10 rfl (by kernel_rfl) rfl f rfl rfl rfl Tryd.call68 (fun _ _ w hG_55 m => Wk.spec_l1Has m (RSl.mono (RI.mono _) _ _ _ _ hG_55 h_52) hy_54) fun a f => ?_
    refine q_p 9 10 rfl (by kernel_rfl) f rfl rfl rfl (fun _ => r_assign (f.eval rfl)) fun a f => ?_
    refine q_end fun G_56 w hl_57 m => ?_
    have h0_0 := RSl.mono (RSl.mono (RI.mono _)) _ _ _ _ hl_57 h0_0
    have h1 := RSl.mono (RI.mono _) _ _ _ _ hl_57 h1
    have g_51 := At.mono hl_57 g_51
    have h_52 := RSl.mono (RI.mono _) _ _ _ _ hl_57 h_52
    have o_14 := Ow.mono (RI.mono _) hl_57 o_14
    refine l_nil (k_seq (k_seq (k_region ?_)))
    refine l_fieldAddr Tryd.underlying83 rfl Tryd.sizeOf2 (by decide) f rfl rfl fun a f => ?_
    refine l_boxCell 1 2 m Pl2 f rfl rfl rfl rfl fun a f => ?_
    refine l_nil (k_block (k_seq (k_region ?_)))
    refine l_in f rfl rfl rfl b_eql fun a f => ?_
    refine l_as f rfl rfl fun a f => ?_
    refine l_nil ?_
    rcases cond_some hd with ⟨hc_58, hd⟩ | ⟨hc_58, hd⟩
    ·refine k_true f rfl hc_58 ?_
     refine k_seq (k_region ?_)
     refine l_mv f rfl rfl fun a f => ?_
     refine l_mv f rfl rfl fun a f => ?_
     refine l_cut 4 (fun a w => ∃ G_60, GLe G_56 G_60 ∧ Mem W G_60 w (it_13 :: Itm.box b_4 83 [(.int .i64 x2_0), (.int .i64 x2_1), (.int .i64 x2_2)] :: Itm.box b_2 29 [v0_0] :: H) ∧ Fr a 87 [(0, (.agg #[v0_0])), (1, v1), (2, (.agg #[(.int .i64 x2_0), (.int .i64 x2_1), (.int .i64 x2_2)])), (3, (.pointer (some ⟨b_2, 0, none⟩))), (5, (.pointer (some ⟨b_4, 0, none⟩))), (7, v_12), (8, (.bool y_53)), (49, (.int .i64 x2_2)), (50, (.bool (x2_2 == 2))), (52, (.bool y_53)), (53, (.bool y_53)), (57, (.bool (y_53 && ((y_5.length : Int) == 0))))]) ?_ ?_
     ·rcases Bool.eq_false_or_eq_true y_53 with hc_59 | hc_59
      ·refine l_run f rfl rfl hc_59 ?_
       refine l_mv f rfl rfl fun a f => ?_
       refine l_run f rfl rfl hc_59 ?_
       refine l_own_len 0 m o_14 rfl Tryd.underlying31 f rfl rfl fun a f => ?_
       refine l_run f rfl rfl hc_59 ?_
       refine l_in f rfl rfl rfl b_eql fun a f => ?_
       refine l_op f rfl rfl rfl (r_pickT (f.eval rfl) hc_59 (f.eval rfl)) fun a f => ?_
       have m := m.front 2 rfl
       have m := m.front 2 rfl
       have m := m.front 2 rfl
       exact ⟨_, (GLe.refl _), m, f.weak ⟨rfl, rfl, rfl, rfl, rfl, rfl, rfl, rfl, rfl, rfl, rfl, by rw [hc_59]; rfl, trivial⟩⟩
      ·refine l_not' f rfl rfl rfl hc_59 fun a f => ?_
       refine l_not' f rfl rfl rfl hc_59 fun a f => ?_
       refine l_not' f rfl rfl rfl hc_59 fun a f => ?_
       refine l_op f rfl rfl rfl (r_pickF (f.eval rfl) hc_59 (f.eval rfl)) fun a f => ?_
       have m := m.front 2 rfl
       have m := m.front 2 rfl
       have m := m.front 2 rfl
       exact ⟨_, (GLe.refl _), m, f.weak ⟨rfl, rfl, rfl, rfl, rfl, rfl, rfl, rfl, rfl, rfl, rfl, by rw [hc_59]; rfl, trivial⟩⟩
     ·rintro a w ⟨G_60, hl_61, m, f⟩
      have h0_0 := RSl.mono (RSl.mono (RI.mono _)) _ _ _ _ hl_61 h0_0
      have h1 := RSl.mono (RI.mono _) _ _ _ _ hl_61 h1
      have o_14 := Ow.mono (RI.mono _) hl_61 o_14
      refine l_as f rfl rfl fun a f => ?_
      refine l_nil ?_
      refine k_ret ?_
      have m : Mem W G_60 w H := Mem.drop (H' := [it_13, Itm.box b_4 83 [(.int .i64 x2_0), (.int .i64 x2_1), (.int .i64 x2_2)], Itm.box b_2 29 [v0_0]]) m
      obtain rfl := sj hd
      exact ⟨[(.bool (y_53 && ((y_5.length : Int) == 0)))], ⟨f.get _ _ rfl, trivial⟩, f.defers, _, [], (GLe.trans hl_8 (GLe.trans hl_36 (GLe.trans hl_57 hl_61))), m, rfl, rfl⟩
    ·refine k_false f rfl hc_58 ?_
     refine k_seq (k_region ?_)
     refine l_in f rfl rfl rfl b_eql fun a f => ?_
     refine l_as f rfl rfl fun a f => ?_
     refine l_nil ?_
     rcases cond_some hd with ⟨hc_62, hd⟩ | ⟨hc_62, hd⟩
     ·refine k_true f rfl hc_62 ?_
      refine k_seq (k_region ?_)
      refine l_mv f rfl rfl fun a f => ?_
      refine l_op f rfl rfl rfl (r_not (f.eval rfl)) fun a f => ?_
      refine l_mv f rfl rfl fun a f => ?_
      obtain ⟨b_114, hj_115, hd⟩ := bind_some hd
      refine l_cut 10 (fun a w => ∃ G_112, GLe G_56 G_112 ∧ Mem W G_112 w (it_13 :: Itm.box b_4 83 [(.int .i64 x2_0), (.int .i64 x2_1), (.int .i64 x2_2)] :: Itm.box b_2 29 [v0_0] :: H) ∧ Fr a 87 [(0, (.agg #[v0_0])), (1, v1), (2, (.agg #[(.int .i64 x2_0), (.int .i64 x2_1), (.int .i64 x2_2)])), (3, (.pointer (some ⟨b_2, 0, none⟩))), (5, (.pointer (some ⟨b_4, 0, none⟩))), (7, v_12), (8, (.bool y_53)), (49, (.int .i64 x2_2)), (58, (.bool (x2_2 == 3))), (60, (.bool y_53)), (61, (.bool (!y_53))), (62, (.bool (!y_53))), (72, (.bool b_114))]) ?_ ?_
      ·rcases cond_some hj_115 with ⟨hc_63, hj_115⟩ | ⟨hc_63, hj_115⟩
       ·refine l_run f rfl rfl hc_63 ?_
        refine l_mv f rfl rfl fun a f => ?_
        refine l_run f rfl rfl hc_63 ?_
        refine l_boxAgg 2 0 (ds := [v0_0]) m Ag29 f rfl rfl rfl rfl rfl fun a f => ?_
        refine l_run f rfl rfl hc_63 ?_
        refine l_mv f rfl rfl fun a f => ?_
        refine l_run f rfl rfl hc_63 ?_
        refine l_fieldAddr Tryd.underlying83 rfl Tryd.sizeOf2 (by decide) f rfl rfl fun a f => ?_
        refine l_run f rfl rfl hc_63 ?_
        refine l_boxCell 1 1 m Pl2 f rfl rfl rfl rfl fun a f => ?_
        refine l_run f rfl rfl hc_63 ?_
        refine l_fieldAddr Tryd.underlying83 rfl Tryd.sizeOf2 (by decide) f rfl rfl fun a f => ?_
        refine l_run f rfl rfl hc_63 ?_
        refine l_boxCell 1 0 m Pl2 f rfl rfl rfl rfl fun a f => ?_
        refine l_run f rfl rfl hc_63 ?_
        obtain ⟨y_116, hy_117, hj_115⟩ := bind_some hj_115
        refine l_res f rfl rfl Tryd.call125 (Wk.spec_l18Near m h0_0 h1 hy_117) fun v_121 G_118 Ho_122 w hl_119 m hQ_120 a f => ?_
        obtain ⟨v_123, it_124, rfl, rfl, o_125⟩ := hQ_120
        have h0_0 := RSl.mono (RSl.mono (RI.mono _)) _ _ _ _ hl_119 h0_0
        have h1 := RSl.mono (RI.mono _) _ _ _ _ hl_119 h1
        have o_14 := Ow.mono (RI.mono _) hl_119 o_14
        refine l_run f rfl rfl hc_63 ?_
        obtain ⟨y_127, hy_128, hj_115⟩ := bind_some hj_115
        refine l_res f rfl rfl Tryd.call126 (Ow.lendCall (RI.mono _) 1 o_14 m rfl (fun G_129 hl_130 m h_131 => (Ow.lendCall (RI.mono _) 0 (Ow.mono (RI.mono _) hl_130 o_125) m rfl (fun G_132 hl_133 m h_134 => Wk.spec_l1Same m (RSl.mono (RI.mono _) _ _ _ _ hl_133 h_131) h_134 hy_128) (fun _ _ _ _ h => h))) (fun _ _ _ _ h => h)) fun v_138 G_135 Ho_139 w hl_136 m hQ_137 a f => ?_
        obtain ⟨rfl, rfl⟩ := hQ_137
        have h0_0 := RSl.mono (RSl.mono (RI.mono _)) _ _ _ _ hl_136 h0_0
        have h1 := RSl.mono (RI.mono _) _ _ _ _ hl_136 h1
        have o_125 := Ow.mono (RI.mono _) hl_136 o_125
        have o_14 := Ow.mono (RI.mono _) hl_136 o_14
        refine l_op f rfl rfl rfl (r_pickT (f.eval rfl) hc_63 (f.eval rfl)) fun a f => ?_
        obtain rfl := sj hj_115
        have m := m.front 3 rfl
        have m := m.front 3 rfl
        have m := m.front 3 rfl
        have m := m.eraseAt 3
        exact ⟨_, (GLe.trans hl_119 hl_136), m, f.weak ⟨rfl, rfl, rfl, rfl, rfl, rfl, rfl, rfl, rfl, rfl, rfl, rfl, rfl, trivial⟩⟩
       ·refine l_not' f rfl rfl rfl hc_63 fun a f => ?_
        refine l_not' f rfl rfl rfl hc_63 fun a f => ?_
        refine l_not' f rfl rfl rfl hc_63 fun a f => ?_
        refine l_not' f rfl rfl rfl hc_63 fun a f => ?_
        refine l_not' f rfl rfl rfl hc_63 fun a f => ?_
        refine l_not' f rfl rfl rfl hc_63 fun a f => ?_
        refine l_not' f rfl rfl rfl hc_63 fun a f => ?_
        refine l_not' f rfl rfl rfl hc_63 fun a f => ?_
        refine l_not' f rfl rfl rfl hc_63 fun a f => ?_
        refine l_op f rfl rfl rfl (r_pickF (f.eval rfl) hc_63 (f.eval rfl)) fun a f => ?_
        obtain rfl := sj hj_115
        have m := m.front 2 rfl
        have m := m.front 2 rfl
        have m := m.front 2 rfl
        exact ⟨_, (GLe.refl _), m, f.weak ⟨rfl, rfl, rfl, rfl, rfl, rfl, rfl, rfl, rfl, rfl, rfl, rfl, rfl, trivial⟩⟩
      ·rintro a w ⟨G_112, hl_113, m, f⟩
       have h0_0 := RSl.mono (RSl.mono (RI.mono _)) _ _ _ _ hl_113 h0_0
       have h1 := RSl.mono (RI.mono _) _ _ _ _ hl_113 h1
       have o_14 := Ow.mono (RI.mono _) hl_113 o_14
       refine l_as f rfl rfl fun a f => ?_
       refine l_nil ?_
       refine k_ret ?_
       have m : Mem W G_112 w H := Mem.drop (H' := [it_13, Itm.box b_4 83 [(.int .i64 x2_0), (.int .i64 x2_1), (.int .i64 x2_2)], Itm.box b_2 29 [v0_0]]) m
       obtain rfl := sj hd
       exact ⟨[(.bool b_114)], ⟨f.get _ _ rfl, trivial⟩, f.defers, _, [], (GLe.trans hl_8 (GLe.trans hl_36 (GLe.trans hl_57 hl_113))), m, rfl, rfl⟩
     ·refine k_false f rfl hc_62 ?_
      refine k_seq (k_region ?_)
      refine l_in f rfl rfl rfl b_eql fun a f => ?_
      refine l_as f rfl rfl fun a f => ?_
      refine l_nil ?_
      rcases cond_some hd with ⟨hc_140, hd⟩ | ⟨hc_140, hd⟩
      ·refine k_true f rfl hc_140 ?_
       refine k_seq (k_region ?_)
       refine l_mv f rfl rfl fun a f => ?_
       refine l_mv f rfl rfl fun a f => ?_
       obtain ⟨b_192, hj_193, hd⟩ := bind_some hd
       refine l_cut 10 (fun a w => ∃ G_190, GLe G_56 G_190 ∧ Mem W G_190 w (it_13 :: Itm.box b_4 83 [(.int .i64 x2_0), (.int .i64 x2_1), (.int .i64 x2_2)] :: Itm.box b_2 29 [v0_0] :: H) ∧ Fr a 87 [(0, (.agg #[v0_0])), (1, v1), (2, (.agg #[(.int .i64 x2_0), (.int .i64 x2_1), (.int .i64 x2_2)])), (3, (.pointer (some ⟨b_2, 0, none⟩))), (5, (.pointer (some ⟨b_4, 0, none⟩))), (7, v_12), (8, (.bool y_53)), (73, (.bool (x2_2 == 4))), (75, (.bool y_53)), (76, (.bool y_53)), (86, (.bool b_192))]) ?_ ?_
       ·rcases cond_some hj_193 with ⟨hc_141, hj_193⟩ | ⟨hc_141, hj_193⟩
        ·refine l_run f rfl rfl hc_141 ?_
         refine l_mv f rfl rfl fun a f => ?_
         refine l_run f rfl rfl hc_141 ?_
         refine l_boxAgg 2 0 (ds := [v0_0]) m Ag29 f rfl rfl rfl rfl rfl fun a f => ?_
         refine l_run f rfl rfl hc_141 ?_
         refine l_mv f rfl rfl fun a f => ?_
         refine l_run f rfl rfl hc_141 ?_
         refine l_fieldAddr Tryd.underlying83 rfl Tryd.sizeOf2 (by decide) f rfl rfl fun a f => ?_
         refine l_run f rfl rfl hc_141 ?_
         refine l_boxCell 1 1 m Pl2 f rfl rfl rfl rfl fun a f => ?_
         refine l_run f rfl rfl hc_141 ?_
         refine l_fieldAddr Tryd.underlying83 rfl Tryd.sizeOf2 (by decide) f rfl rfl fun a f => ?_
         refine l_run f rfl rfl hc_141 ?_
         refine l_boxCell 1 0 m Pl2 f rfl rfl rfl rfl fun a f => ?_
         refine l_run f rfl rfl hc_141 ?_
         obtain ⟨y_194, hy_195, hj_193⟩ := bind_some hj_193
         refine l_res f rfl rfl Tryd.call125 (Wk.spec_l18Near m h0_0 h1 hy_195) fun v_199 G_196 Ho_200 w hl_197 m hQ_198 a f => ?_
         obtain ⟨v_201, it_202, rfl, rfl, o_203⟩ := hQ_198
         have h0_0 := RSl.mono (RSl.mono (RI.mono _)) _ _ _ _ hl_197 h0_0
         have h1 := RSl.mono (RI.mono _) _ _ _ _ hl_197 h1
         have o_14 := Ow.mono (RI.mono _) hl_197 o_14
         refine l_run f rfl rfl hc_141 ?_
         obtain ⟨y_205, hy_206, hj_193⟩ := bind_some hj_193
         refine l_res f rfl rfl Tryd.call126 (Ow.lendCall (RI.mono _) 1 o_14 m rfl (fun G_207 hl_208 m h_209 => (Ow.lendCall (RI.mono _) 0 (Ow.mono (RI.mono _) hl_208 o_203) m rfl (fun G_210 hl_211 m h_212 => Wk.spec_l1Same m (RSl.mono (RI.mono _) _ _ _ _ hl_211 h_209) h_212 hy_206) (fun _ _ _ _ h => h))) (fun _ _ _ _ h => h)) fun v_216 G_213 Ho_217 w hl_214 m hQ_215 a f => ?_
         obtain ⟨rfl, rfl⟩ := hQ_215
         have h0_0 := RSl.mono (RSl.mono (RI.mono _)) _ _ _ _ hl_214 h0_0
         have h1 := RSl.mono (RI.mono _) _ _ _ _ hl_214 h1
         have o_203 := Ow.mono (RI.mono _) hl_214 o_203
         have o_14 := Ow.mono (RI.mono _) hl_214 o_14
         refine l_op f rfl rfl rfl (r_pickT (f.eval rfl) hc_141 (f.eval rfl)) fun a f => ?_
         obtain rfl := sj hj_193
         have m := m.front 3 rfl
         have m := m.front 3 rfl
         have m := m.front 3 rfl
         have m := m.eraseAt 3
         exact ⟨_, (GLe.trans hl_197 hl_214), m, f.weak ⟨rfl, rfl, rfl, rfl, rfl, rfl, rfl, rfl, rfl, rfl, rfl, trivial⟩⟩
        ·refine l_not' f rfl rfl rfl hc_141 fun a f => ?_
         refine l_not' f rfl rfl rfl hc_141 fun a f => ?_
         refine l_not' f rfl rfl rfl hc_141 fun a f => ?_
         refine l_not' f rfl rfl rfl hc_141 fun a f => ?_
         refine l_not' f rfl rfl rfl hc_141 fun a f => ?_
         refine l_not' f rfl rfl rfl hc_141 fun a f => ?_
         refine l_not' f rfl rfl rfl hc_141 fun a f => ?_
         refine l_not' f rfl rfl rfl hc_141 fun a f => ?_
         refine l_not' f rfl rfl rfl hc_141 fun a f => ?_
         refine l_op f rfl rfl rfl (r_pickF (f.eval rfl) hc_141 (f.eval rfl)) fun a f => ?_
         obtain rfl := sj hj_193
         have m := m.front 2 rfl
         have m := m.front 2 rfl
         have m := m.front 2 rfl
         exact ⟨_, (GLe.refl _), m, f.weak ⟨rfl, rfl, rfl, rfl, rfl, rfl, rfl, rfl, rfl, rfl, rfl, trivial⟩⟩
       ·rintro a w ⟨G_190, hl_191, m, f⟩
        have h0_0 := RSl.mono (RSl.mono (RI.mono _)) _ _ _ _ hl_191 h0_0
        have h1 := RSl.mono (RI.mono _) _ _ _ _ hl_191 h1
        have o_14 := Ow.mono (RI.mono _) hl_191 o_14
        refine l_as f rfl rfl fun a f => ?_
        refine l_nil ?_
        refine k_ret ?_
        have m : Mem W G_190 w H := Mem.drop (H' := [it_13, Itm.box b_4 83 [(.int .i64 x2_0), (.int .i64 x2_1), (.int .i64 x2_2)], Itm.box b_2 29 [v0_0]]) m
        obtain rfl := sj hd
        exact ⟨[(.bool b_192)], ⟨f.get _ _ rfl, trivial⟩, f.defers, _, [], (GLe.trans hl_8 (GLe.trans hl_36 (GLe.trans hl_57 hl_191))), m, rfl, rfl⟩
      ·refine k_false f rfl hc_140 ?_
       refine k_skip ?_
       refine k_seq (k_region ?_)
       refine l_as f rfl rfl fun a f => ?_
       refine l_nil ?_
       refine k_ret ?_
       have m : Mem W G_56 w H := Mem.drop (H' := [it_13, Itm.box b_4 83 [(.int .i64 x2_0), (.int .i64 x2_1), (.int .i64 x2_2)], Itm.box b_2 29 [v0_0]]) m
       obtain rfl := sj hd
       exact ⟨[(.bool false)], ⟨f.get _ _ rfl, trivial⟩, f.defers, _, [], (GLe.trans hl_8 (GLe.trans hl_36 hl_57)), m, rfl, rfl⟩

theorem Wk.spec_l19Less {W w : World} {G : GH} {H : List Itm} {v0 : Value} {x0 : (List Int)} {x1 : Int} (m : Mem W G w (H)) (h0 : RSl (RI .i64) G v0 x0) {y : ((List Int))} (hd : D.spec_l19Less x0 x1 = some y) :
  Calls Tryd.prog 109 #[v0, (.int .i64 x1)] w (Res W G H (fun G' Ho v => ∃ r0 : Value, ∃ i0 : Itm, Ho = [i0] ∧ r0 = v ∧ Ow (RI .i64) 2 G' i0 r0 y)) := by
 refine calls_b (args := [v0, (.int .i64 x1)]) (N := 28) [.tmp 4] Tryd.func109 rfl rfl (Nat.le_of_ble_eq_true rfl) rfl fun a f => ?_
 unfold D.spec_l19Less at hd
 refine k_seq (k_region ?_)
 refine l_as f rfl rfl fun a f => ?_
 refine l_nil (k_seq (k_region ?_))
 refine l_slit (R := (RI .i64)) (xs := ([] : List Int)) (RI.one _) m T31 f rfl rfl rfl (by decide) (All2.nil _) fun it_1 v_2 w a m o_3 f => ?_
 refine l_as f rfl rfl fun a f => ?_
 refine l_nil (k_seq (k_seq (k_region ?_)))
 refine l_as f rfl rfl fun a f => ?_
 refine l_nil ?_
 obtain ⟨q_60, hl_61, hd⟩ := bind_some hd
 refine k_cut (fun a w => ∃ l_99 : List Int, l_99 = q_60 ∧ ∃ (G_98 : GH) (v_100 : Value) (it_101 : Itm), GLe G G_98 ∧ Fr a 28 [(5, v_100)] ∧ Mem W G_98 w (it_101 :: H) ∧ Ow (RI .i64) 2 G_98 it_101 v_100 l_99) ?_ ?_
 ·refine k_block ?_
  refine k_loop (fun s_64 a w => ∃ l_67 : List Int, ∃ x_72 : Int, (l_67, x_72) = s_64 ∧ ∃ (G_66 : GH) (v_68 : Value) (it_69 : Itm), GLe G G_66 ∧ Fr a 28 [(0, v0), (1, (.int .i64 x1)), (5, v_68), (6, (.int .i64 x_72))] ∧ Mem W G_66 w (it_69 :: H) ∧ Ow (RI .i64) 2 G_66 it_69 v_68 l_67) hl_61 ⟨_, _, rfl, _, v_2, it_1, (GLe.refl _), f.weak ⟨rfl, rfl, rfl, rfl, trivial⟩, m, o_3⟩ ?_
  clear hl_61 f m
  rintro s_64 o_65 hs_62 hq_63 a w ⟨l_67, x_72, rfl, G_66, v_68, it_69, hl_73, f, m, o_70⟩
  have h0 := RSl.mono (RI.mono _) _ _ _ _ hl_73 h0
  refine k_seq (k_seq (k_region ?_))
  refine l_mv f rfl rfl fun a f => ?_
  refine l_mv f rfl rfl fun a f => ?_
  refine l_len Tryd.underlying31 f rfl rfl h0 fun a f => ?_
  refine l_in f rfl rfl rfl b_lss fun a f => ?_
  refine l_nil ?_
  rcases cond_some hs_62 with ⟨hc_105, hs_62⟩ | ⟨hc_105, hs_62⟩
  ·refine k_true f rfl hc_105 ?_
   refine k_skip ?_
   refine k_seq (k_block (k_seq (k_region ?_)))
   refine l_mv f rfl rfl fun a f => ?_
   refine l_mv f rfl rfl fun a f => ?_
   obtain ⟨e_106, he_107, hs_62⟩ := bind_some hs_62
   refine l_at T31 f rfl rfl rfl h0 he_107 fun p_108 c_109 a g_110 h_111 f => ?_
   subst h_111
   refine l_loadAt m Pl2 f rfl rfl g_110 fun a f => ?_
   refine l_mv f rfl rfl fun a f => ?_
   refine l_in f rfl rfl rfl b_neq fun a f => ?_
   refine l_nil ?_
   rcases cond_some hs_62 with ⟨hc_112, hs_62⟩ | ⟨hc_112, hs_62⟩
   ·refine k_true f rfl hc_112 ?_
    refine k_region ?_
    refine l_mv f rfl rfl fun a f => ?_
    refine l_mv f rfl rfl fun a f => ?_
    refine l_mv f rfl rfl fun a f => ?_
    obtain ⟨e_113, he_114, hs_62⟩ := bind_some hs_62
    refine l_at T31 f rfl rfl rfl h0 he_114 fun p_115 c_116 a g_117 h_118 f => ?_
    subst h_118
    refine l_loadAt m Pl2 f rfl rfl g_117 fun a f => ?_
    refine l_slit (R := (RI .i64)) (xs := ([e_113] : List Int)) (RI.one _) m T31 f rfl rfl rfl (by decide) (All2.cons rfl (All2.nil _)) fun it_119 v_120 w a m o_121 f => ?_
    obtain ⟨l_123, hx_124, hs_62⟩ := bind_some hs_62
    refine l_append (RI.one _) 1 m o_70 rfl T31 rfl (by decide) f rfl rfl rfl (Ow.src (j := 0) o_121 m rfl) hx_124 fun it_125 v_126 w a m o_127 f => ?_
    refine l_as f rfl rfl fun a f => ?_
    refine l_nil (k_region ?_)
    refine l_mv f rfl rfl fun a f => ?_
    refine l_in f rfl rfl rfl b_add fun a f => ?_
    refine l_as f rfl rfl fun a f => ?_
    refine l_nil ?_
    have m := m.front 1 rfl
    have m := m.eraseAt 1
    obtain rfl := sj hs_62
    exact ⟨_, rfl, _, _, rfl, _, v_126, it_125, hl_73, f.weak ⟨rfl, rfl, rfl, rfl, trivial⟩, m, o_127⟩
   ·refine k_false f rfl hc_112 ?_
    refine k_skip ?_
    refine k_region ?_
    refine l_mv f rfl rfl fun a f => ?_
    refine l_in f rfl rfl rfl b_add fun a f => ?_
    refine l_as f rfl rfl fun a f => ?_
    refine l_nil ?_
    obtain rfl := sj hs_62
    exact ⟨_, rfl, _, _, rfl, _, v_68, it_69, hl_73, f.weak ⟨rfl, rfl, rfl, rfl, trivial⟩, m, o_70⟩
  ·refine k_false f rfl hc_105 ?_
   refine k_exit rfl ?_
   obtain rfl := sj hs_62
   obtain rfl := hq_63 _ rfl
   exact ⟨_, rfl, _, v_68, it_69, hl_73, f.weak ⟨rfl, trivial⟩, m, o_70⟩
 ·rintro a w ⟨l_99, rfl, G_98, v_100, it_101, hl_104, f, m, o_102⟩
  refine k_seq (k_region ?_)
  refine l_mv f rfl rfl fun a f => ?_
  refine l_as f rfl rfl fun a f => ?_
  refine l_nil ?_
  refine k_ret ?_
  obtain rfl := sj hd
  exact ⟨[v_100], ⟨f.get _ _ rfl, trivial⟩, f.defers, _, [it_101], hl_104, m, _, _, rfl, rfl, o_102⟩

theorem Wk.spec_PrunesOk {W w : World} {G : GH} {H : List Itm} {v0_0 : Value} {v1 : Value} {x0_0 : (List (List Int))} {x1 : (List (Int × Int × Int))} (m : Mem W G w (H)) (h0_0 : RSl (RSl (RI .i64)) G v0_0 x0_0) (h1 : RSr P3 G v1 x1) {y : Bool} (hd : D.spec_PrunesOk x0_0 x1 = some y) :
  Calls Tryd.prog 71 #[(.agg #[v0_0]), v1] w (Res W G H (fun _ Ho v => Ho = [] ∧ v = (.bool y))) := by
 refine calls_b (args := [(.agg #[v0_0]), v1]) (N := 48) [.tmp 4] Tryd.func71 rfl rfl (Nat.le_of_ble_eq_true rfl) rfl fun a f => ?_
 unfold D.spec_PrunesOk at hd
 refine k_seq (k_region ?_)
 refine l_box (cs := [v0_0]) m f rfl rfl rfl fun b_2 w a m f => ?_
 refine l_as f rfl rfl fun a f => ?_
 refine l_nil (k_seq (k_seq (k_region ?_)))
 refine l_boxAgg 0 0 (ds := [v0_0]) m Ag29 f rfl rfl rfl rfl rfl fun a f => ?_
 obtain ⟨y_3, hy_4, hd⟩ := bind_some hd
 refine l_res f rfl rfl Tryd.call51 (Wk.spec_GraphOk m h0_0 hy_4) fun v_8 G_5 Ho_9 w hl_6 m hQ_7 a f => ?_
 obtain ⟨rfl, rfl⟩ := hQ_7
 have h0_0 := RSl.mono (RSl.mono (RI.mono _)) _ _ _ _ hl_6 h0_0
 have h1 := RSr.mono trivial _ _ _ _ hl_6 h1
 refine l_op f rfl rfl rfl (r_not (f.eval rfl)) fun a f => ?_
 refine l_mv f rfl rfl fun a f => ?_
 refine l_cut 4 (fun a w => ∃ G_11, GLe G_5 G_11 ∧ Mem W G_11 w (Itm.box b_2 29 [v0_0] :: H) ∧ Fr a 48 [(0, (.agg #[v0_0])), (1, v1), (2, (.pointer (some ⟨b_2, 0, none⟩))), (7, (.agg #[v0_0])), (8, (.bool y_3)), (9, (.bool (!y_3))), (10, (.bool (!y_3))), (14, (.bool ((!y_3) || (decide ((16 : Int) < (x1.length : Int))))))]) ?_ ?_
 ·rcases Bool.eq_false_or_eq_true (!y_3) with hc_10 | hc_10
  ·refine l_not' f rfl rfl rfl hc_10 fun a f => ?_
   refine l_not' f rfl rfl rfl hc_10 fun a f => ?_
   refine l_not' f rfl rfl rfl hc_10 fun a f => ?_
   refine l_op f rfl rfl rfl (r_pickT (f.eval rfl) hc_10 (f.eval rfl)) fun a f => ?_
   exact ⟨_, (GLe.refl _), m, f.weak ⟨rfl, rfl, rfl, rfl, rfl, rfl, rfl, by rw [hc_10]; rfl, trivial⟩⟩
  ·refine l_run f rfl rfl hc_10 ?_
   refine l_mv f rfl rfl fun a f => ?_
   refine l_run f rfl rfl hc_10 ?_
   refine l_lenR Tryd.underlying44 f rfl rfl h1 fun a f => ?_
   refine l_run f rfl rfl hc_10 ?_
   refine l_in f rfl rfl rfl b_gtr fun a f => ?_
   refine l_op f rfl rfl rfl (r_pickF (f.eval rfl) hc_10 (f.eval rfl)) fun a f => ?_
   exact ⟨_, (GLe.refl _), m, f.weak ⟨rfl, rfl, rfl, rfl, rfl, rfl, rfl, by rw [hc_10]; rfl, trivial⟩⟩
 ·rintro a w ⟨G_11, hl_12, m, f⟩
  have h0_0 := RSl.mono (RSl.mono (RI.mono _)) _ _ _ _ hl_12 h0_0
  have h1 := RSr.mono trivial _ _ _ _ hl_12 h1
  refine l_nil ?_
  rcases cond_some hd with ⟨hc_13, hd⟩ | ⟨hc_13, hd⟩
  ·refine k_true f rfl hc_13 ?_
   refine k_seq (k_region ?_)
   refine l_as f rfl rfl fun a f => ?_
   refine l_nil ?_
   refine k_ret ?_
   have m : Mem W G_11 w H := Mem.drop (H' := [Itm.box b_2 29 [v0_0]]) m
   obtain rfl := sj hd
   exact ⟨[(.bool false)], ⟨f.get _ _ rfl, trivial⟩, f.defers, _, [], (GLe.trans hl_6 hl_12), m, rfl, rfl⟩
  ·refine k_false f rfl hc_13 ?_
   refine k_skip ?_
   refine k_seq (k_region ?_)
   refine l_boxAgg 0 0 (ds := [v0_0]) m Ag29 f rfl rfl rfl rfl rfl fun a f => ?_
   obtain ⟨y_14, hy_15, hd⟩ := bind_some hd
   refine l_res f rfl rfl Tryd.call107 (Wk.spec_l16All m h0_0 hy_15) fun v_19 G_16 Ho_20 w hl_17 m hQ_18 a f => ?_
   obtain ⟨v_21, it_22, rfl, rfl, o_23⟩ := hQ_18
   have h0_0 := RSl.mono (RSl.mono (RI.mono _)) _ _ _ _ hl_17 h0_0
   have h1 := RSr.mono trivial _ _ _ _ hl_17 h1
   refine l_as f rfl rfl fun a f => ?_
   refine l_nil (k_seq (k_seq (k_region ?_)))
   refine l_as f rfl rfl fun a f => ?_
   refine l_nil ?_
   obtain ⟨q_152, hl_153, hd⟩ := bind_some hd
   refine k_cut (fun a w => ∃ q_152' : Unit, q_152 = .inl q_152' ∧ ∃ (G_226 : GH), GLe G_16 G_226 ∧ Fr a 48 [] ∧ Mem W G_226 w (H)) ?_ ?_
   ·refine k_block ?_
    have m := m.front 1 rfl
    refine k_loop (fun s_156 a w => ∃ l_159 : List Int, ∃ x_164 : Int, (l_159, x_164) = s_156 ∧ ∃ (G_158 : GH) (v_160 : Value) (it_161 : Itm), GLe G_16 G_158 ∧ Fr a 48 [(1, v1), (2, (.pointer (some ⟨b_2, 0, none⟩))), (5, v_160), (6, (.int .i64 x_164))] ∧ Mem W G_158 w (Itm.box b_2 29 [v0_0] :: it_161 :: H) ∧ Ow (RI .i64) 2 G_158 it_161 v_160 l_159) hl_153 ⟨_, _, rfl, _, v_21, it_22, (GLe.refl _), f.weak ⟨rfl, rfl, rfl, rfl, trivial⟩, m, o_23⟩ ?_
    clear hl_153 f m
    rintro s_156 o_157 hs_154 hq_155 a w ⟨l_159, x_164, rfl, G_158, v_160, it_161, hl_165, f, m, o_162⟩
    have h1 := RSr.mono trivial _ _ _ _ hl_165 h1
    have h0_0 := RSl.mono (RSl.mono (RI.mono _)) _ _ _ _ hl_165 h0_0
    refine k_seq (k_seq (k_region ?_))
    refine l_mv f rfl rfl fun a f => ?_
    refine l_mv f rfl rfl fun a f => ?_
    refine l_lenR Tryd.underlying44 f rfl rfl h1 fun a f => ?_
    refine l_in f rfl rfl rfl b_lss fun a f => ?_
    refine l_nil ?_
    rcases cond_some hs_154 with ⟨hc_228, hs_154⟩ | ⟨hc_228, hs_154⟩
    ·refine k_true f rfl hc_228 ?_
     refine k_skip ?_
     refine k_seq (k_block (k_seq (k_seq ?_)))
     refine k_draw 18 Follows (by kernel_rfl) m ?_
     refine q_mv 0 18 rfl (by kernel_rfl) f rfl rfl rfl fun a f => ?_
     refine q_mv 1 18 rfl (by kernel_rfl) f rfl rfl rfl fun a f => ?_
     refine q_mv 2 18 rfl (by kernel_rfl) f rfl rfl rfl fun a f => ?_
     obtain ⟨e_229, he_230, hs_154⟩ := bind_some hs_154
     refine q_atR (i := 3) (listed' := #[true, true, true, true, false, false, false, false, false, false, false, false, false, false, false, false, false, false]) (C := P3) 18 T44 h1 he_230 rfl (by kernel_rfl) rfl f rfl rfl rfl rfl fun p_231 a g_232 f => ?_
     refine q_fieldR (i := 4) (listed' := #[true, true, true, true, true, false, false, false, false, false, false, false, false, false, false, false, false, false]) (C := P3) (c := (.int .i64 e_229.1)) 18 Tryd.underlying83 rfl Tryd.sizeOf2 (by decide) g_232 rfl rfl (by kernel_rfl) rfl f rfl rfl rfl fun p_233 a g_234 f => ?_
     refine q_loadAt (i := 5) 18 Pl2 g_234 rfl (by kernel_rfl) rfl f rfl rfl rfl fun a f => ?_
     obtain ⟨y_235, hy_236, hs_154⟩ := bind_some hs_154
     refine q_call (i := 6) 18 rfl (by kernel_rfl) rfl f rfl rfl rfl Tryd.call68 (fun _ _ w hG_237 m => (Ow.lendCallR (RI.mono _) 1 (Ow.mono (RI.mono _) hG_237 o_162) m rfl (fun G_238 hl_239 m h_240 => Wk.spec_l1Has m h_240 hy_236) (fun _ _ _ _ h => h))) fun a f => ?_
     refine q_p 7 18 rfl (by kernel_rfl) f rfl rfl rfl (fun _ => r_not (f.eval rfl)) fun a f => ?_
     refine q_mv 8 18 rfl (by kernel_rfl) f rfl rfl rfl fun a f => ?_
     obtain ⟨b_253, hj_254, hs_154⟩ := bind_some hs_154
     refine q_cut (fuel' := 0) (listed' := #[true, true, true, true, true, true, true, true, true, true, true, true, true, true, true, true, true, true]) (fun a => Fr a 48 [(1, v1), (2, (.pointer (some ⟨b_2, 0, none⟩))), (5, v_160), (6, (.int .i64 x_164)), (20, (.bool (decide (x_164 < (x1.length : Int))))), (23, v_160), (24, v1), (25, (.int .i64 x_164)), (26, p_231), (27, p_233), (28, (.int .i64 e_229.1)), (29, (.bool y_235)), (30, (.bool (!y_235))), (31, (.bool (!y_235))), (40, (.bool b_253))]) ?_ ?_
     ·intro a f
      refine q_end fun G_265 w hl_266 m => ?_
      have h1 := RSr.mono trivial _ _ _ _ hl_266 h1
      have g_232 := AtR.mono hl_266 g_232
      have g_234 := At.mono hl_266 g_234
      have h0_0 := RSl.mono (RSl.mono (RI.mono _)) _ _ _ _ hl_266 h0_0
      have o_162 := Ow.mono (RI.mono _) hl_266 o_162
      refine l_nil ?_
      rcases cond_some hs_154 with ⟨hc_267, hs_154⟩ | ⟨hc_267, hs_154⟩
      ·refine k_true f rfl hc_267 ?_
       refine k_seq (k_region ?_)
       refine l_as f rfl rfl fun a f => ?_
       refine l_nil ?_
       refine k_ret ?_
       have m : Mem W G_265 w H := Mem.drop (H' := [Itm.box b_2 29 [v0_0], it_161]) m
       obtain rfl := sj hs_154
       obtain rfl := hq_155 _ rfl
       obtain rfl := sj hd
       exact ⟨[(.bool false)], ⟨f.get _ _ rfl, trivial⟩, f.defers, _, [], (GLe.trans hl_6 (GLe.trans hl_12 (GLe.trans hl_17 (GLe.trans hl_165 hl_266)))), m, rfl, rfl⟩
      ·refine k_false f rfl hc_267 ?_
       refine k_skip ?_
       refine k_region ?_
       refine l_mv f rfl rfl fun a f => ?_
       refine l_mv f rfl rfl fun a f => ?_
       refine l_mv f rfl rfl fun a f => ?_
       obtain ⟨e_268, he_269, hs_154⟩ := bind_some hs_154
       refine l_atR (E := P3) T44 f rfl rfl rfl h1 he_269 fun p_270 a g_271 f => ?_
       refine l_fieldR (E := P3) (c := (.int .i64 e_268.1)) Tryd.underlying83 rfl Tryd.sizeOf2 (by decide) f rfl rfl g_271 rfl fun p_272 a g_273 f => ?_
       refine l_loadAt m Pl2 f rfl rfl g_273 fun a f => ?_
       obtain ⟨y_274, hy_275, hs_154⟩ := bind_some hs_154
       refine l_res f rfl rfl Tryd.call109 (Ow.lendCall (RI.mono _) 1 o_162 m rfl (fun G_276 hl_277 m h_278 => Wk.spec_l19Less m h_278 hy_275) (fun _ G' _ _ ⟨a0, a1, e1, e2, o0⟩ => ⟨a0, a1, e1, e2, Ow.free (RI.free _) G' o0⟩)) fun v_282 G_279 Ho_283 w hl_280 m hQ_281 a f => ?_
       obtain ⟨v_284, it_285, rfl, rfl, o_286⟩ := hQ_281
       have h1 := RSr.mono trivial _ _ _ _ hl_280 h1
       have g_271 := AtR.mono hl_280 g_271
       have g_273 := At.mono hl_280 g_273
       have h0_0 := RSl.mono (RSl.mono (RI.mono _)) _ _ _ _ hl_280 h0_0
       have o_162 := Ow.mono (RI.mono _) hl_280 o_162
       refine l_as f rfl rfl fun a f => ?_
       refine l_nil (k_region ?_)
       refine l_mv f rfl rfl fun a f => ?_
       refine l_in f rfl rfl rfl b_add fun a f => ?_
       refine l_as f rfl rfl fun a f => ?_
       refine l_nil ?_
       have m := m.front 1 rfl
       have m := m.eraseAt 2
       obtain rfl := sj hs_154
       exact ⟨_, rfl, _, _, rfl, _, v_284, it_285, (GLe.trans hl_165 (GLe.trans hl_266 hl_280)), f.weak ⟨rfl, rfl, rfl, rfl, trivial⟩, m, o_286⟩
     ·intro K_252
      rcases cond_some hj_254 with ⟨hc_241, hj_254⟩ | ⟨hc_241, hj_254⟩
      ·refine q_ng 9 18 rfl (by kernel_rfl) f rfl rfl hc_241 rfl fun a f => ?_
       refine q_ng 10 18 rfl (by kernel_rfl) f rfl rfl hc_241 rfl fun a f => ?_
       refine q_ng 11 18 rfl (by kernel_rfl) f rfl rfl hc_241 rfl fun a f => ?_
       refine q_ng 12 18 rfl (by kernel_rfl) f rfl rfl hc_241 rfl fun a f => ?_
       refine q_ng 13 18 rfl (by kernel_rfl) f rfl rfl hc_241 rfl fun a f => ?_
       refine q_ng 14 18 rfl (by kernel_rfl) f rfl rfl hc_241 rfl fun a f => ?_
       refine q_ng 15 18 rfl (by kernel_rfl) f rfl rfl hc_241 rfl fun a f => ?_
       refine q_ng 16 18 rfl (by kernel_rfl) f rfl rfl hc_241 rfl fun a f => ?_
       refine q_p 17 18 rfl (by kernel_rfl) f rfl rfl rfl (fun _ => r_pickT (f.eval rfl) hc_241 (f.eval rfl)) fun a f => ?_
       obtain rfl := sj hj_254
       exact K_252 _ (f.weak ⟨rfl, rfl, rfl, rfl, rfl, rfl, rfl, rfl, rfl, rfl, rfl, rfl, rfl, rfl, rfl, trivial⟩)
      ·refine q_boxAgg (i := 9) (ds := [v0_0]) 18 0 Ag29 rfl rfl rfl rfl (by kernel_rfl) rfl f (wanted_of f rfl rfl rfl hc_241) rfl rfl fun a f => ?_
       refine q_mv 10 18 rfl (by kernel_rfl) f (wanted_of f rfl rfl rfl hc_241) rfl rfl fun a f => ?_
       refine q_mv 11 18 rfl (by kernel_rfl) f (wanted_of f rfl rfl rfl hc_241) rfl rfl fun a f => ?_
       refine q_mv 12 18 rfl (by kernel_rfl) f (wanted_of f rfl rfl rfl hc_241) rfl rfl fun a f => ?_
       obtain ⟨e_255, he_256, hj_254⟩ := bind_some hj_254
       refine q_atR (i := 13) (listed' := #[true, true, true, true, true, true, true, true, true, true, true, true, true, true, false, false, false, false]) (C := P3) 18 T44 h1 he_256 rfl (by kernel_rfl) rfl f (wanted_of f rfl rfl rfl hc_241) rfl rfl rfl fun p_257 a g_258 f => ?_
       refine q_loadR (i := 14) (listed' := #[true, true, true, true, true, true, true, true, true, true, true, true, true, true, true, false, false, false]) (C := P3) [(.int .i64 e_255.1), (.int .i64 e_255.2.1), (.int .i64 e_255.2.2)] 18 Ag83 g_258 rfl rfl (by kernel_rfl) rfl f (wanted_of f rfl rfl rfl hc_241) rfl rfl fun a f => ?_
       obtain ⟨y_259, hy_260, hj_254⟩ := bind_some hj_254
       refine q_call (i := 15) 18 rfl (by kernel_rfl) rfl f (wanted_of f rfl rfl rfl hc_241) rfl rfl Tryd.call108 (fun _ _ w hG_261 m => (Ow.lendCallR (RI.mono _) 1 (Ow.mono (RI.mono _) hG_261 o_162) m rfl (fun G_262 hl_263 m h_264 => Wk.spec_l18Goes m (RSl.mono (RSl.mono (RI.mono _)) _ _ _ _ hl_263 (RSl.mono (RSl.mono (RI.mono _)) _ _ _ _ hG_261 h0_0)) h_264 hy_260) (fun _ _ _ _ h => h))) fun a f => ?_
       refine q_p 16 18 rfl (by kernel_rfl) f (wanted_of f rfl rfl rfl hc_241) rfl rfl (fun _ => r_not (f.eval rfl)) fun a f => ?_
       refine q_p 17 18 rfl (by kernel_rfl) f rfl rfl rfl (fun _ => r_pickF (f.eval rfl) hc_241 (f.eval rfl)) fun a f => ?_
       obtain rfl := sj hj_254
       exact K_252 _ (f.weak ⟨rfl, rfl, rfl, rfl, rfl, rfl, rfl, rfl, rfl, rfl, rfl, rfl, rfl, rfl, rfl, trivial⟩)
    ·refine k_false f rfl hc_228 ?_
     refine k_exit rfl ?_
     have m : Mem W G_158 w H := Mem.drop (H' := [Itm.box b_2 29 [v0_0], it_161]) m
     obtain rfl := sj hs_154
     obtain rfl := hq_155 _ rfl
     exact ⟨_, rfl, _, hl_165, f.weak trivial, m⟩
   ·rintro a w ⟨_, rfl, G_226, hl_227, f, m⟩
    refine k_seq (k_region ?_)
    refine l_as f rfl rfl fun a f => ?_
    refine l_nil ?_
    refine k_ret ?_
    obtain rfl := sj hd
    exact ⟨[(.bool true)], ⟨f.get _ _ rfl, trivial⟩, f.defers, _, [], (GLe.trans hl_6 (GLe.trans hl_12 (GLe.trans hl_17 hl_227))), m, rfl, rfl⟩

theorem Wk.spec_GrownBy {W w : World} {G : GH} {H : List Itm} {v0 : Value} {x0 : (List (Int × Int × Int))} (m : Mem W G w (H)) (h0 : RSr P3 G v0 x0) {y : ((List (List Int))) × Bool} (hd : D.spec_GrownBy x0 = some y) :
  Calls Tryd.prog 20 #[v0] w (Res W G H (fun G' Ho v => ∃ r0 : Value, ∃ i0 : Itm, Ho = [i0] ∧ v = .tuple #[(.agg #[r0]), (.bool y.2)] ∧ Ow (RSl (RI .i64)) 31 G' i0 r0 y.1)) := by
 refine calls_b (args := [v0]) (N := 83) [.cell 2 29, .tmp 3] Tryd.func20 rfl rfl (Nat.le_of_ble_eq_true rfl) rfl fun a f => ?_
 unfold D.spec_GrownBy at hd
 refine k_seq (k_region ?_)
 refine l_alloc (cs := [(.slice none 0 0)]) Tryd.zeroValue29 m f rfl rfl fun b_2 w a m f => ?_
 refine l_as f rfl rfl fun a f => ?_
 refine l_nil (k_seq (k_region ?_))
 refine l_mv f rfl rfl fun a f => ?_
 refine l_lenR Tryd.underlying44 f rfl rfl h0 fun a f => ?_
 refine l_as f rfl rfl fun a f => ?_
 refine l_nil (k_seq (k_seq (k_region ?_)))
 refine l_mv f rfl rfl fun a f => ?_
 obtain ⟨y_3, hy_4, hd⟩ := bind_some hd
 refine l_res f rfl rfl Tryd.call67 (Wk.spec_l1In m  hy_4) fun v_8 G_5 Ho_9 w hl_6 m hQ_7 a f => ?_
 obtain ⟨rfl, rfl⟩ := hQ_7
 have h0 := RSr.mono trivial _ _ _ _ hl_6 h0
 refine l_op f rfl rfl rfl (r_not (f.eval rfl)) fun a f => ?_
 refine l_nil ?_
 rcases cond_some hd with ⟨hc_10, hd⟩ | ⟨hc_10, hd⟩
 ·refine k_true f rfl hc_10 ?_
  refine k_seq (k_region ?_)
  have hb_11 : ∀ w, (Instr.build 29 #[]).run Tryd.prog w = .ok (.agg #[(.slice none 0 0)]) w := by intro w; simp [Instr.build, Instr.fill, cells_int, cells_bool, cells_string, cells_slice, cells_pointer, cells_agg]
  refine l_build f rfl rfl hb_11 fun a f => ?_
  refine l_boxStore 0 0 (ds := [(.slice none 0 0)]) m Tryd.sizeOf29 f rfl rfl rfl (ones_cons rfl ones_nil) rfl (Nat.le_of_ble_eq_true rfl) rfl fun w m => ?_
  refine l_as f rfl rfl fun a f => ?_
  refine l_nil ?_
  refine k_ret ?_
  obtain ⟨it_12, m, o_13⟩ := Ow.nil (RSl (RI .i64)) 31 m
  have rc_15 := rr_agg (P := Tryd.prog) 1 m Ag29 f (s := 2) rfl rfl rfl
  have m := m.eraseAt 1
  obtain rfl := sj hd
  exact ⟨[(.agg #[(.slice none 0 0)]), (.bool false)], ⟨rc_15, f.get _ _ rfl, trivial⟩, f.defers, _, [it_12], hl_6, m, _, _, rfl, rfl, o_13⟩
 ·refine k_false f rfl hc_10 ?_
  refine k_skip ?_
  refine k_seq (k_region ?_)
  refine l_mv f rfl rfl fun a f => ?_
  obtain ⟨l_16, hx_17, hd⟩ := bind_some hd
  refine l_make (R := (RSl (RI .i64))) m T27 rfl (by decide) (RSl.nil (RI .i64) G_5) f rfl rfl rfl hx_17 fun it_18 v_19 w a m o_20 f => ?_
  have hb_22 : ∀ w, (Instr.build 29 #[(0, v_19)]).run Tryd.prog w = .ok (.agg #[v_19]) w := by intro w; simp [Instr.build, Instr.fill, (Ow.cells 0 m o_20 rfl), cells_int, cells_bool, cells_string, cells_slice, cells_pointer, cells_agg]
  refine l_build f rfl rfl hb_22 fun a f => ?_
  refine l_alloc (cs := [(.slice none 0 0)]) Tryd.zeroValue29 m f rfl rfl fun b_24 w a m f => ?_
  refine l_boxStore 0 0 (ds := [v_19]) m Tryd.sizeOf29 f rfl rfl rfl (ones_cons (Ow.one1 1 m o_20 rfl) ones_nil) rfl (Nat.le_of_ble_eq_true rfl) rfl fun w m => ?_
  refine l_nil (k_seq (k_region ?_))
  refine l_slit (R := (RI .i64)) (xs := ([] : List Int)) (RI.one _) m T31 f rfl rfl rfl (by decide) (All2.nil _) fun it_25 v_26 w a m o_27 f => ?_
  refine l_as f rfl rfl fun a f => ?_
  refine l_nil (k_seq (k_seq (k_region ?_)))
  refine l_mv f rfl rfl fun a f => ?_
  refine l_lenR Tryd.underlying44 f rfl rfl h0 fun a f => ?_
  refine l_in f rfl rfl rfl b_sub fun a f => ?_
  refine l_as f rfl rfl fun a f => ?_
  refine l_nil ?_
  obtain ⟨G_426, hl_427, m, h_428⟩ := Ow.stamp (RI.mono _) o_27 m
  have h0 := RSr.mono trivial _ _ _ _ hl_427 h0
  have o_20 := Ow.mono (RSl.mono (RI.mono _)) hl_427 o_20
  obtain ⟨q_420, hl_421, hd⟩ := bind_some hd
  refine k_cut (fun a w => ∃ q_420' : (List (List Int)), q_420 = .inl q_420' ∧ ∃ l_611 : List (List Int), l_611 = q_420' ∧ ∃ (G_610 : GH) (it_612 : Itm), GLe G_426 G_610 ∧ Fr a 83 [(0, v0), (2, (.pointer (some ⟨b_2, 0, none⟩))), (5, (.pointer (some ⟨b_24, 0, none⟩)))] ∧ Mem W G_610 w (Itm.box b_2 29 [(.slice none 0 0)] :: Itm.box b_24 29 [v_19] :: it_612 :: H) ∧ Ow (RSl (RI .i64)) 31 G_610 it_612 v_19 l_611) ?_ ?_
  ·refine k_block ?_
   have m := m.front 1 rfl
   have m := m.front 1 rfl
   have m := m.front 2 rfl
   refine k_loop (fun s_424 a w => ∃ l_430 : List Int, ∃ x_433 : Int, ∃ l_434 : List (List Int), (l_430, x_433, l_434) = s_424 ∧ ∃ (G_429 : GH) (v_431 : Value) (it_435 : Itm), GLe G_426 G_429 ∧ Fr a 83 [(0, v0), (2, (.pointer (some ⟨b_2, 0, none⟩))), (4, (.int .i64 (x0.length : Int))), (5, (.pointer (some ⟨b_24, 0, none⟩))), (6, v_431), (7, (.int .i64 x_433))] ∧ Mem W G_429 w (Itm.box b_2 29 [(.slice none 0 0)] :: Itm.box b_24 29 [v_19] :: it_435 :: H) ∧ RSl (RI .i64) G_429 v_431 l_430 ∧ Ow (RSl (RI .i64)) 31 G_429 it_435 v_19 l_434) hl_421 ⟨_, _, _, rfl, _, v_26, it_18, (GLe.refl _), f.weak ⟨rfl, rfl, rfl, rfl, rfl, rfl, trivial⟩, m, h_428, o_20⟩ ?_
   clear hl_421 f m
   rintro s_424 o_425 hs_422 hq_423 a w ⟨l_430, x_433, l_434, rfl, G_429, v_431, it_435, hl_437, f, m, h_432, o_436⟩
   have h0 := RSr.mono trivial _ _ _ _ hl_437 h0
   refine k_seq (k_seq (k_region ?_))
   refine l_mv f rfl rfl fun a f => ?_
   refine l_in f rfl rfl rfl b_geq fun a f => ?_
   refine l_nil ?_
   rcases cond_some hs_422 with ⟨hc_615, hs_422⟩ | ⟨hc_615, hs_422⟩
   ·refine k_true f rfl hc_615 ?_
    refine k_skip ?_
    refine k_seq (k_block (k_seq (k_region ?_)))
    refine l_mv f rfl rfl fun a f => ?_
    refine l_mv f rfl rfl fun a f => ?_
    obtain ⟨e_616, he_617, hs_422⟩ := bind_some hs_422
    refine l_atR (E := P3) T44 f rfl rfl rfl h0 he_617 fun p_618 a g_619 f => ?_
    refine l_loadR (E := P3) [(.int .i64 e_616.1), (.int .i64 e_616.2.1), (.int .i64 e_616.2.2)] m Ag83 f rfl rfl g_619 rfl fun a f => ?_
    refine l_alloc (cs := [(.int .i64 0), (.int .i64 0), (.int .i64 0)]) Tryd.zeroValue83 m f rfl rfl fun b_621 w a m f => ?_
    refine l_boxStore 0 0 (ds := [(.int .i64 e_616.1), (.int .i64 e_616.2.1), (.int .i64 e_616.2.2)]) m Tryd.sizeOf83 f rfl rfl rfl (ones_cons rfl (ones_cons rfl (ones_cons rfl ones_nil))) rfl (Nat.le_of_ble_eq_true rfl) rfl fun w m => ?_
    refine l_nil (k_seq (k_seq (k_region ?_)))
    refine l_fieldAddr Tryd.underlying83 rfl Tryd.sizeOf2 (by decide) f rfl rfl fun a f => ?_
    refine l_boxCell 0 0 m Pl2 f rfl rfl rfl rfl fun a f => ?_
    refine l_mv f rfl rfl fun a f => ?_
    refine l_in f rfl rfl rfl b_sub fun a f => ?_
    obtain ⟨y_622, hy_623, hs_422⟩ := bind_some hs_422
    refine l_res f rfl rfl Tryd.call67 (Wk.spec_l1In m  hy_623) fun v_627 G_624 Ho_628 w hl_625 m hQ_626 a f => ?_
    obtain ⟨rfl, rfl⟩ := hQ_626
    have h0 := RSr.mono trivial _ _ _ _ hl_625 h0
    have h_432 := RSl.mono (RI.mono _) _ _ _ _ hl_625 h_432
    have o_436 := Ow.mono (RSl.mono (RI.mono _)) hl_625 o_436
    refine l_op f rfl rfl rfl (r_not (f.eval rfl)) fun a f => ?_
    refine l_mv f rfl rfl fun a f => ?_
    obtain ⟨b_646, hj_647, hs_422⟩ := bind_some hs_422
    refine l_cut 5 (fun a w => ∃ G_644, GLe G_624 G_644 ∧ Mem W G_644 w (Itm.box b_621 83 [(.int .i64 e_616.1), (.int .i64 e_616.2.1), (.int .i64 e_616.2.2)] :: Itm.box b_2 29 [(.slice none 0 0)] :: Itm.box b_24 29 [v_19] :: it_435 :: H) ∧ Fr a 83 [(0, v0), (2, (.pointer (some ⟨b_2, 0, none⟩))), (4, (.int .i64 (x0.length : Int))), (5, (.pointer (some ⟨b_24, 0, none⟩))), (6, v_431), (7, (.int .i64 x_433)), (8, (.pointer (some ⟨b_621, 0, none⟩))), (30, (.pointer (some ⟨b_621, 0, none⟩))), (31, (.int .i64 e_616.1)), (32, (.int .i64 (x0.length : Int))), (33, (.int .i64 (IntKind.i64.wrap ((x0.length : Int) - 1)))), (34, (.bool y_622)), (35, (.bool (!y_622))), (36, (.bool (!y_622))), (41, (.bool b_646))]) ?_ ?_
    ·rcases cond_some hj_647 with ⟨hc_629, hj_647⟩ | ⟨hc_629, hj_647⟩
     ·refine l_not' f rfl rfl rfl hc_629 fun a f => ?_
      refine l_not' f rfl rfl rfl hc_629 fun a f => ?_
      refine l_not' f rfl rfl rfl hc_629 fun a f => ?_
      refine l_not' f rfl rfl rfl hc_629 fun a f => ?_
      refine l_op f rfl rfl rfl (r_pickT (f.eval rfl) hc_629 (f.eval rfl)) fun a f => ?_
      obtain rfl := sj hj_647
      have m := m.front 3 rfl
      have m := m.front 3 rfl
      have m := m.front 3 rfl
      have m := m.front 3 rfl
      exact ⟨_, (GLe.refl _), m, f.weak ⟨rfl, rfl, rfl, rfl, rfl, rfl, rfl, rfl, rfl, rfl, rfl, rfl, rfl, rfl, rfl, trivial⟩⟩
     ·refine l_run f rfl rfl hc_629 ?_
      refine l_mv f rfl rfl fun a f => ?_
      refine l_run f rfl rfl hc_629 ?_
      refine l_fieldAddr Tryd.underlying83 rfl Tryd.sizeOf2 (by decide) f rfl rfl fun a f => ?_
      refine l_run f rfl rfl hc_629 ?_
      refine l_boxCell 0 0 m Pl2 f rfl rfl rfl rfl fun a f => ?_
      refine l_run f rfl rfl hc_629 ?_
      obtain ⟨y_648, hy_649, hj_647⟩ := bind_some hj_647
      refine l_res f rfl rfl Tryd.call68 (Wk.spec_l1Has m h_432 hy_649) fun v_653 G_650 Ho_654 w hl_651 m hQ_652 a f => ?_
      obtain ⟨rfl, rfl⟩ := hQ_652
      have h0 := RSr.mono trivial _ _ _ _ hl_651 h0
      have h_432 := RSl.mono (RI.mono _) _ _ _ _ hl_651 h_432
      have o_436 := Ow.mono (RSl.mono (RI.mono _)) hl_651 o_436
      refine l_op f rfl rfl rfl (r_pickF (f.eval rfl) hc_629 (f.eval rfl)) fun a f => ?_
      obtain rfl := sj hj_647
      have m := m.front 3 rfl
      have m := m.front 3 rfl
      have m := m.front 3 rfl
      have m := m.front 3 rfl
      exact ⟨_, hl_651, m, f.weak ⟨rfl, rfl, rfl, rfl, rfl, rfl, rfl, rfl, rfl, rfl, rfl, rfl, rfl, rfl, rfl, trivial⟩⟩
    ·rintro a w ⟨G_644, hl_645, m, f⟩
     have h0 := RSr.mono trivial _ _ _ _ hl_645 h0
     have h_432 := RSl.mono (RI.mono _) _ _ _ _ hl_645 h_432
     have o_436 := Ow.mono (RSl.mono (RI.mono _)) hl_645 o_436
     refine l_mv f rfl rfl fun a f => ?_
     obtain ⟨b_672, hj_673, hs_422⟩ := bind_some hs_422
     refine l_cut 5 (fun a w => ∃ G_670, GLe G_644 G_670 ∧ Mem W G_670 w (Itm.box b_621 83 [(.int .i64 e_616.1), (.int .i64 e_616.2.1), (.int .i64 e_616.2.2)] :: Itm.box b_2 29 [(.slice none 0 0)] :: Itm.box b_24 29 [v_19] :: it_435 :: H) ∧ Fr a 83 [(0, v0), (2, (.pointer (some ⟨b_2, 0, none⟩))), (4, (.int .i64 (x0.length : Int))), (5, (.pointer (some ⟨b_24, 0, none⟩))), (6, v_431), (7, (.int .i64 x_433)), (8, (.pointer (some ⟨b_621, 0, none⟩))), (30, (.pointer (some ⟨b_621, 0, none⟩))), (31, (.int .i64 e_616.1)), (32, (.int .i64 (x0.length : Int))), (33, (.int .i64 (IntKind.i64.wrap ((x0.length : Int) - 1)))), (34, (.bool y_622)), (35, (.bool (!y_622))), (36, (.bool (!y_622))), (41, (.bool b_646)), (42, (.bool b_646)), (47, (.bool b_672))]) ?_ ?_
     ·rcases cond_some hj_673 with ⟨hc_655, hj_673⟩ | ⟨hc_655, hj_673⟩
      ·refine l_not' f rfl rfl rfl hc_655 fun a f => ?_
       refine l_not' f rfl rfl rfl hc_655 fun a f => ?_
       refine l_not' f rfl rfl rfl hc_655 fun a f => ?_
       refine l_not' f rfl rfl rfl hc_655 fun a f => ?_
       refine l_op f rfl rfl rfl (r_pickT (f.eval rfl) hc_655 (f.eval rfl)) fun a f => ?_
       obtain rfl := sj hj_673
       have m := m.front 3 rfl
       have m := m.front 3 rfl
       have m := m.front 3 rfl
       have m := m.front 3 rfl
       exact ⟨_, (GLe.refl _), m, f.weak ⟨rfl, rfl, rfl, rfl, rfl, rfl, rfl, rfl, rfl, rfl, rfl, rfl, rfl, rfl, rfl, rfl, rfl, trivial⟩⟩
      ·refine l_run f rfl rfl hc_655 ?_
       refine l_fieldAddr Tryd.underlying83 rfl Tryd.sizeOf2 (by decide) f rfl rfl fun a f => ?_
       refine l_run f rfl rfl hc_655 ?_
       refine l_boxCell 0 2 m Pl2 f rfl rfl rfl rfl fun a f => ?_
       refine l_run f rfl rfl hc_655 ?_
       obtain ⟨y_674, hy_675, hj_673⟩ := bind_some hj_673
       refine l_res f rfl rfl Tryd.call67 (Wk.spec_l1In m  hy_675) fun v_679 G_676 Ho_680 w hl_677 m hQ_678 a f => ?_
       obtain ⟨rfl, rfl⟩ := hQ_678
       have h0 := RSr.mono trivial _ _ _ _ hl_677 h0
       have h_432 := RSl.mono (RI.mono _) _ _ _ _ hl_677 h_432
       have o_436 := Ow.mono (RSl.mono (RI.mono _)) hl_677 o_436
       refine l_run f rfl rfl hc_655 ?_
       refine l_op f rfl rfl rfl (r_not (f.eval rfl)) fun a f => ?_
       refine l_op f rfl rfl rfl (r_pickF (f.eval rfl) hc_655 (f.eval rfl)) fun a f => ?_
       obtain rfl := sj hj_673
       have m := m.front 3 rfl
       have m := m.front 3 rfl
       have m := m.front 3 rfl
       have m := m.front 3 rfl
       exact ⟨_, hl_677, m, f.weak ⟨rfl, rfl, rfl, rfl, rfl, rfl, rfl, rfl, rfl, rfl, rfl, rfl, rfl, rfl, rfl, rfl, rfl, trivial⟩⟩
     ·rintro a w ⟨G_670, hl_671, m, f⟩
      have h0 := RSr.mono trivial _ _ _ _ hl_671 h0
      have h_432 := RSl.mono (RI.mono _) _ _ _ _ hl_671 h_432
      have o_436 := Ow.mono (RSl.mono (RI.mono _)) hl_671 o_436
      refine l_mv f rfl rfl fun a f => ?_
      refine l_cut 8 (fun a w => ∃ G_682, GLe G_670 G_682 ∧ Mem W G_682 w (Itm.box b_621 83 [(.int .i64 e_616.1), (.int .i64 e_616.2.1), (.int .i64 e_616.2.2)] :: Itm.box b_2 29 [(.slice none 0 0)] :: Itm.box b_24 29 [v_19] :: it_435 :: H) ∧ Fr a 83 [(0, v0), (2, (.pointer (some ⟨b_2, 0, none⟩))), (4, (.int .i64 (x0.length : Int))), (5, (.pointer (some ⟨b_24, 0, none⟩))), (6, v_431), (7, (.int .i64 x_433)), (8, (.pointer (some ⟨b_621, 0, none⟩))), (30, (.pointer (some ⟨b_621, 0, none⟩))), (31, (.int .i64 e_616.1)), (32, (.int .i64 (x0.length : Int))), (33, (.int .i64 (IntKind.i64.wrap ((x0.length : Int) - 1)))), (34, (.bool y_622)), (35, (.bool (!y_622))), (36, (.bool (!y_622))), (41, (.bool b_646)), (42, (.bool b_646)), (47, (.bool b_672)), (48, (.bool b_672)), (56, (.bool (b_672 || ((e_616.2.1 == (-1)) != (e_616.2.2 == 1)))))]) ?_ ?_
      ·rcases Bool.eq_false_or_eq_true b_672 with hc_681 | hc_681
       ·refine l_not' f rfl rfl rfl hc_681 fun a f => ?_
        refine l_not' f rfl rfl rfl hc_681 fun a f => ?_
        refine l_not' f rfl rfl rfl hc_681 fun a f => ?_
        refine l_not' f rfl rfl rfl hc_681 fun a f => ?_
        refine l_not' f rfl rfl rfl hc_681 fun a f => ?_
        refine l_not' f rfl rfl rfl hc_681 fun a f => ?_
        refine l_not' f rfl rfl rfl hc_681 fun a f => ?_
        refine l_op f rfl rfl rfl (r_pickT (f.eval rfl) hc_681 (f.eval rfl)) fun a f => ?_
        have m := m.front 3 rfl
        have m := m.front 3 rfl
        have m := m.front 3 rfl
        have m := m.front 3 rfl
        exact ⟨_, (GLe.refl _), m, f.weak ⟨rfl, rfl, rfl, rfl, rfl, rfl, rfl, rfl, rfl, rfl, rfl, rfl, rfl, rfl, rfl, rfl, rfl, rfl, by rw [hc_681]; rfl, trivial⟩⟩
       ·refine l_run f rfl rfl hc_681 ?_
        refine l_fieldAddr Tryd.underlying83 rfl Tryd.sizeOf2 (by decide) f rfl rfl fun a f => ?_
        refine l_run f rfl rfl hc_681 ?_
        refine l_boxCell 0 1 m Pl2 f rfl rfl rfl rfl fun a f => ?_
        refine l_run f rfl rfl hc_681 ?_
        refine l_in f rfl rfl rfl b_eql fun a f => ?_
        refine l_run f rfl rfl hc_681 ?_
        refine l_fieldAddr Tryd.underlying83 rfl Tryd.sizeOf2 (by decide) f rfl rfl fun a f => ?_
        refine l_run f rfl rfl hc_681 ?_
        refine l_boxCell 0 2 m Pl2 f rfl rfl rfl rfl fun a f => ?_
        refine l_run f rfl rfl hc_681 ?_
        refine l_in f rfl rfl rfl b_eql fun a f => ?_
        refine l_run f rfl rfl hc_681 ?_
        refine l_op f rfl rfl rfl (r_bool_neq (f.eval rfl) (f.eval rfl) Tryd.underlying4) fun a f => ?_
        refine l_op f rfl rfl rfl (r_pickF (f.eval rfl) hc_681 (f.eval rfl)) fun a f => ?_
        have m := m.front 3 rfl
        have m := m.front 3 rfl
        have m := m.front 3 rfl
        have m := m.front 3 rfl
        exact ⟨_, (GLe.refl _), m, f.weak ⟨rfl, rfl, rfl, rfl, rfl, rfl, rfl, rfl, rfl, rfl, rfl, rfl, rfl, rfl, rfl, rfl, rfl, rfl, by rw [hc_681]; rfl, trivial⟩⟩
      ·rintro a w ⟨G_682, hl_683, m, f⟩
       have h0 := RSr.mono trivial _ _ _ _ hl_683 h0
       have h_432 := RSl.mono (RI.mono _) _ _ _ _ hl_683 h_432
       have o_436 := Ow.mono (RSl.mono (RI.mono _)) hl_683 o_436
       refine l_mv f rfl rfl fun a f => ?_
       obtain ⟨b_739, hj_740, hs_422⟩ := bind_some hs_422
       refine l_cut 11 (fun a w => ∃ G_737, GLe G_682 G_737 ∧ Mem W G_737 w (Itm.box b_621 83 [(.int .i64 e_616.1), (.int .i64 e_616.2.1), (.int .i64 e_616.2.2)] :: Itm.box b_2 29 [(.slice none 0 0)] :: Itm.box b_24 29 [v_19] :: it_435 :: H) ∧ Fr a 83 [(0, v0), (2, (.pointer (some ⟨b_2, 0, none⟩))), (4, (.int .i64 (x0.length : Int))), (5, (.pointer (some ⟨b_24, 0, none⟩))), (6, v_431), (7, (.int .i64 x_433)), (8, (.pointer (some ⟨b_621, 0, none⟩))), (30, (.pointer (some ⟨b_621, 0, none⟩))), (31, (.int .i64 e_616.1)), (32, (.int .i64 (x0.length : Int))), (33, (.int .i64 (IntKind.i64.wrap ((x0.length : Int) - 1)))), (34, (.bool y_622)), (35, (.bool (!y_622))), (36, (.bool (!y_622))), (41, (.bool b_646)), (42, (.bool b_646)), (47, (.bool b_672)), (48, (.bool b_672)), (56, (.bool (b_672 || ((e_616.2.1 == (-1)) != (e_616.2.2 == 1))))), (57, (.bool (b_672 || ((e_616.2.1 == (-1)) != (e_616.2.2 == 1))))), (68, (.bool b_739))]) ?_ ?_
       ·rcases cond_some hj_740 with ⟨hc_684, hj_740⟩ | ⟨hc_684, hj_740⟩
        ·refine l_not' f rfl rfl rfl hc_684 fun a f => ?_
         refine l_not' f rfl rfl rfl hc_684 fun a f => ?_
         refine l_not' f rfl rfl rfl hc_684 fun a f => ?_
         refine l_not' f rfl rfl rfl hc_684 fun a f => ?_
         refine l_notU f rfl rfl rfl fun a f => ?_
         refine l_notU f rfl rfl rfl fun a f => ?_
         refine l_notU f rfl rfl rfl fun a f => ?_
         refine l_notU f rfl rfl rfl fun a f => ?_
         refine l_notU f rfl rfl rfl fun a f => ?_
         refine l_not' f rfl rfl rfl hc_684 fun a f => ?_
         refine l_op f rfl rfl rfl (r_pickT (f.eval rfl) hc_684 (f.eval rfl)) fun a f => ?_
         obtain rfl := sj hj_740
         have m := m.front 3 rfl
         have m := m.front 3 rfl
         have m := m.front 3 rfl
         have m := m.front 3 rfl
         exact ⟨_, (GLe.refl _), m, f.weak ⟨rfl, rfl, rfl, rfl, rfl, rfl, rfl, rfl, rfl, rfl, rfl, rfl, rfl, rfl, rfl, rfl, rfl, rfl, rfl, rfl, rfl, trivial⟩⟩
        ·refine l_run f rfl rfl hc_684 ?_
         refine l_fieldAddr Tryd.underlying83 rfl Tryd.sizeOf2 (by decide) f rfl rfl fun a f => ?_
         refine l_run f rfl rfl hc_684 ?_
         refine l_boxCell 0 1 m Pl2 f rfl rfl rfl rfl fun a f => ?_
         refine l_run f rfl rfl hc_684 ?_
         refine l_in f rfl rfl rfl b_neq fun a f => ?_
         refine l_run f rfl rfl hc_684 ?_
         refine l_mv f rfl rfl fun a f => ?_
         obtain ⟨b_758, hj_759, hj_740⟩ := bind_some hj_740
         refine l_cut 6 (fun a w => ∃ G_756, GLe G_682 G_756 ∧ Mem W G_756 w (Itm.box b_621 83 [(.int .i64 e_616.1), (.int .i64 e_616.2.1), (.int .i64 e_616.2.2)] :: Itm.box b_2 29 [(.slice none 0 0)] :: Itm.box b_24 29 [v_19] :: it_435 :: H) ∧ Fr a 83 [(0, v0), (2, (.pointer (some ⟨b_2, 0, none⟩))), (4, (.int .i64 (x0.length : Int))), (5, (.pointer (some ⟨b_24, 0, none⟩))), (6, v_431), (7, (.int .i64 x_433)), (8, (.pointer (some ⟨b_621, 0, none⟩))), (30, (.pointer (some ⟨b_621, 0, none⟩))), (31, (.int .i64 e_616.1)), (32, (.int .i64 (x0.length : Int))), (33, (.int .i64 (IntKind.i64.wrap ((x0.length : Int) - 1)))), (34, (.bool y_622)), (35, (.bool (!y_622))), (36, (.bool (!y_622))), (41, (.bool b_646)), (42, (.bool b_646)), (47, (.bool b_672)), (48, (.bool b_672)), (56, (.bool (b_672 || ((e_616.2.1 == (-1)) != (e_616.2.2 == 1))))), (57, (.bool (b_672 || ((e_616.2.1 == (-1)) != (e_616.2.2 == 1))))), (58, (.pointer (some ⟨b_621, 1, none⟩))), (59, (.int .i64 e_616.2.1)), (60, (.bool (e_616.2.1 != (-1)))), (61, (.bool (e_616.2.1 != (-1)))), (67, (.bool b_758))]) ?_ ?_
         ·rcases cond_some hj_759 with ⟨hc_741, hj_759⟩ | ⟨hc_741, hj_759⟩
          ·refine l_run f rfl rfl hc_741 ?_
           refine l_mv f rfl rfl fun a f => ?_
           refine l_run f rfl rfl hc_741 ?_
           refine l_fieldAddr Tryd.underlying83 rfl Tryd.sizeOf2 (by decide) f rfl rfl fun a f => ?_
           refine l_run f rfl rfl hc_741 ?_
           refine l_boxCell 0 1 m Pl2 f rfl rfl rfl rfl fun a f => ?_
           refine l_run f rfl rfl hc_741 ?_
           obtain ⟨y_760, hy_761, hj_759⟩ := bind_some hj_759
           refine l_res f rfl rfl Tryd.call68 (Wk.spec_l1Has m h_432 hy_761) fun v_765 G_762 Ho_766 w hl_763 m hQ_764 a f => ?_
           obtain ⟨rfl, rfl⟩ := hQ_764
           have h0 := RSr.mono trivial _ _ _ _ hl_763 h0
           have h_432 := RSl.mono (RI.mono _) _ _ _ _ hl_763 h_432
           have o_436 := Ow.mono (RSl.mono (RI.mono _)) hl_763 o_436
           refine l_run f rfl rfl hc_741 ?_
           refine l_op f rfl rfl rfl (r_not (f.eval rfl)) fun a f => ?_
           refine l_run f rfl rfl hc_684 ?_
           refine l_op f rfl rfl rfl (r_pickT (f.eval rfl) hc_741 (f.eval rfl)) fun a f => ?_
           obtain rfl := sj hj_759
           have m := m.front 3 rfl
           have m := m.front 3 rfl
           have m := m.front 3 rfl
           have m := m.front 3 rfl
           exact ⟨_, hl_763, m, f.weak ⟨rfl, rfl, rfl, rfl, rfl, rfl, rfl, rfl, rfl, rfl, rfl, rfl, rfl, rfl, rfl, rfl, rfl, rfl, rfl, rfl, rfl, rfl, rfl, rfl, rfl, trivial⟩⟩
          ·refine l_not' f rfl rfl rfl hc_741 fun a f => ?_
           refine l_not' f rfl rfl rfl hc_741 fun a f => ?_
           refine l_not' f rfl rfl rfl hc_741 fun a f => ?_
           refine l_not' f rfl rfl rfl hc_741 fun a f => ?_
           refine l_not' f rfl rfl rfl hc_741 fun a f => ?_
           refine l_run f rfl rfl hc_684 ?_
           refine l_op f rfl rfl rfl (r_pickF (f.eval rfl) hc_741 (f.eval rfl)) fun a f => ?_
           obtain rfl := sj hj_759
           have m := m.front 3 rfl
           have m := m.front 3 rfl
           have m := m.front 3 rfl
           have m := m.front 3 rfl
           exact ⟨_, (GLe.refl _), m, f.weak ⟨rfl, rfl, rfl, rfl, rfl, rfl, rfl, rfl, rfl, rfl, rfl, rfl, rfl, rfl, rfl, rfl, rfl, rfl, rfl, rfl, rfl, rfl, rfl, rfl, rfl, trivial⟩⟩
         ·rintro a w ⟨G_756, hl_757, m, f⟩
          have h0 := RSr.mono trivial _ _ _ _ hl_757 h0
          have h_432 := RSl.mono (RI.mono _) _ _ _ _ hl_757 h_432
          have o_436 := Ow.mono (RSl.mono (RI.mono _)) hl_757 o_436
          refine l_op f rfl rfl rfl (r_pickF (f.eval rfl) hc_684 (f.eval rfl)) fun a f => ?_
          obtain rfl := sj hj_740
          have m := m.front 3 rfl
          have m := m.front 3 rfl
          have m := m.front 3 rfl
          have m := m.front 3 rfl
          exact ⟨_, hl_757, m, f.weak ⟨rfl, rfl, rfl, rfl, rfl, rfl, rfl, rfl, rfl, rfl, rfl, rfl, rfl, rfl, rfl, rfl, rfl, rfl, rfl, rfl, rfl, trivial⟩⟩
       ·rintro a w ⟨G_737, hl_738, m, f⟩
        have h0 := RSr.mono trivial _ _ _ _ hl_738 h0
        have h_432 := RSl.mono (RI.mono _) _ _ _ _ hl_738 h_432
        have o_436 := Ow.mono (RSl.mono (RI.mono _)) hl_738 o_436
        refine l_nil ?_
        rcases cond_some hs_422 with ⟨hc_767, hs_422⟩ | ⟨hc_767, hs_422⟩
        ·refine k_true f rfl hc_767 ?_
         refine k_seq (k_region ?_)
         have hb_768 : ∀ w, (Instr.build 29 #[]).run Tryd.prog w = .ok (.agg #[(.slice none 0 0)]) w := by intro w; simp [Instr.build, Instr.fill, cells_int, cells_bool, cells_string, cells_slice, cells_pointer, cells_agg]
         refine l_build f rfl rfl hb_768 fun a f => ?_
         refine l_boxStore 1 0 (ds := [(.slice none 0 0)]) m Tryd.sizeOf29 f rfl rfl rfl (ones_cons rfl ones_nil) rfl (Nat.le_of_ble_eq_true rfl) rfl fun w m => ?_
         refine l_as f rfl rfl fun a f => ?_
         refine l_nil ?_
         refine k_ret ?_
         obtain ⟨it_769, m, o_770⟩ := Ow.nil (RSl (RI .i64)) 31 m
         have rc_772 := rr_agg (P := Tryd.prog) 2 m Ag29 f (s := 2) rfl rfl rfl
         have m := m.front 4 rfl
         have m := m.front 1 rfl
         have m := m.eraseAt 4
         have m := m.eraseAt 3
         have m := m.eraseAt 2
         have m := m.eraseAt 1
         obtain rfl := sj hs_422
         obtain rfl := hq_423 _ rfl
         obtain rfl := sj hd
         exact ⟨[(.agg #[(.slice none 0 0)]), (.bool false)], ⟨rc_772, f.get _ _ rfl, trivial⟩, f.defers, _, [it_769], (GLe.trans hl_6 (GLe.trans hl_427 (GLe.trans hl_437 (GLe.trans hl_625 (GLe.trans hl_645 (GLe.trans hl_671 (GLe.trans hl_683 hl_738))))))), m, _, _, rfl, rfl, o_770⟩
        ·refine k_false f rfl hc_767 ?_
         refine k_skip ?_
         refine k_seq (k_region ?_)
         refine l_boxAgg 2 0 (ds := [v_19]) m Ag29 f rfl rfl rfl rfl rfl fun a f => ?_
         refine l_boxAgg 0 0 (ds := [(.int .i64 e_616.1), (.int .i64 e_616.2.1), (.int .i64 e_616.2.2)]) m Ag83 f rfl rfl rfl rfl rfl fun a f => ?_
         have m := m.front 3 rfl
         obtain ⟨y_773, hy_774, hs_422⟩ := bind_some hs_422
         refine l_res f rfl rfl Tryd.call69 (Wk.spec_l18Grow m o_436 hy_774) fun v_778 G_775 Ho_779 w hl_776 m hQ_777 a f => ?_
         obtain ⟨it_780, rfl, rfl, o_781⟩ := hQ_777
         have h0 := RSr.mono trivial _ _ _ _ hl_776 h0
         have h_432 := RSl.mono (RI.mono _) _ _ _ _ hl_776 h_432
         refine l_boxStore 3 0 (ds := [v_19]) m Tryd.sizeOf29 f rfl rfl rfl (ones_cons (Ow.one1 0 m o_781 rfl) ones_nil) rfl (Nat.le_of_ble_eq_true rfl) rfl fun w m => ?_
         refine l_nil (k_region ?_)
         refine l_mv f rfl rfl fun a f => ?_
         refine l_fieldAddr Tryd.underlying83 rfl Tryd.sizeOf2 (by decide) f rfl rfl fun a f => ?_
         refine l_boxCell 1 0 m Pl2 f rfl rfl rfl rfl fun a f => ?_
         obtain ⟨y_782, hy_783, hs_422⟩ := bind_some hs_422
         refine l_res f rfl rfl Tryd.call70 (Wk.spec_l1Into m h_432 hy_783) fun v_787 G_784 Ho_788 w hl_785 m hQ_786 a f => ?_
         obtain ⟨v_789, rfl, rfl, h_790⟩ := hQ_786
         have h0 := RSr.mono trivial _ _ _ _ hl_785 h0
         have h_432 := RSl.mono (RI.mono _) _ _ _ _ hl_785 h_432
         have o_781 := Ow.mono (RSl.mono (RI.mono _)) hl_785 o_781
         refine l_as f rfl rfl fun a f => ?_
         refine l_nil (k_region ?_)
         refine l_mv f rfl rfl fun a f => ?_
         refine l_in f rfl rfl rfl b_sub fun a f => ?_
         refine l_as f rfl rfl fun a f => ?_
         refine l_nil ?_
         have m := m.front 3 rfl
         have m := m.front 3 rfl
         have m := m.eraseAt 3
         obtain rfl := sj hs_422
         exact ⟨_, rfl, _, _, _, rfl, _, v_789, it_780, (GLe.trans hl_437 (GLe.trans hl_625 (GLe.trans hl_645 (GLe.trans hl_671 (GLe.trans hl_683 (GLe.trans hl_738 (GLe.trans hl_776 hl_785))))))), f.weak ⟨rfl, rfl, rfl, rfl, rfl, rfl, trivial⟩, m, h_790, o_781⟩
   ·refine k_false f rfl hc_615 ?_
    refine k_exit rfl ?_
    have m := m.front 2 rfl
    have m := m.front 2 rfl
    have m := m.front 2 rfl
    obtain rfl := sj hs_422
    obtain rfl := hq_423 _ rfl
    exact ⟨_, rfl, _, rfl, _, it_435, hl_437, f.weak ⟨rfl, rfl, rfl, trivial⟩, m, o_436⟩
  ·rintro a w ⟨_, rfl, l_611, rfl, G_610, it_612, hl_614, f, m, o_613⟩
   have h0 := RSr.mono trivial _ _ _ _ hl_614 h0
   refine k_seq (k_seq (k_region ?_))
   refine l_boxAgg 1 0 (ds := [v_19]) m Ag29 f rfl rfl rfl rfl rfl fun a f => ?_
   refine l_mv f rfl rfl fun a f => ?_
   obtain ⟨y_791, hy_792, hd⟩ := bind_some hd
   refine l_res f rfl rfl Tryd.call71 (Ow.lendCall (RSl.mono (RI.mono _)) 2 o_613 m rfl (fun G_793 hl_794 m h_795 => Wk.spec_PrunesOk m h_795 (RSr.mono trivial _ _ _ _ hl_794 h0) hy_792) (fun _ _ _ _ h => h)) fun v_799 G_796 Ho_800 w hl_797 m hQ_798 a f => ?_
   obtain ⟨rfl, rfl⟩ := hQ_798
   have h0 := RSr.mono trivial _ _ _ _ hl_797 h0
   have o_613 := Ow.mono (RSl.mono (RI.mono _)) hl_797 o_613
   refine l_op f rfl rfl rfl (r_not (f.eval rfl)) fun a f => ?_
   refine l_nil ?_
   rcases cond_some hd with ⟨hc_801, hd⟩ | ⟨hc_801, hd⟩
   ·refine k_true f rfl hc_801 ?_
    refine k_seq (k_region ?_)
    have hb_802 : ∀ w, (Instr.build 29 #[]).run Tryd.prog w = .ok (.agg #[(.slice none 0 0)]) w := by intro w; simp [Instr.build, Instr.fill, cells_int, cells_bool, cells_string, cells_slice, cells_pointer, cells_agg]
    refine l_build f rfl rfl hb_802 fun a f => ?_
    refine l_boxStore 0 0 (ds := [(.slice none 0 0)]) m Tryd.sizeOf29 f rfl rfl rfl (ones_cons rfl ones_nil) rfl (Nat.le_of_ble_eq_true rfl) rfl fun w m => ?_
    refine l_as f rfl rfl fun a f => ?_
    refine l_nil ?_
    refine k_ret ?_
    obtain ⟨it_803, m, o_804⟩ := Ow.nil (RSl (RI .i64)) 31 m
    have rc_806 := rr_agg (P := Tryd.prog) 1 m Ag29 f (s := 2) rfl rfl rfl
    have m := m.front 3 rfl
    have m := m.front 1 rfl
    have m := m.eraseAt 3
    have m := m.eraseAt 2
    have m := m.eraseAt 1
    obtain rfl := sj hd
    exact ⟨[(.agg #[(.slice none 0 0)]), (.bool false)], ⟨rc_806, f.get _ _ rfl, trivial⟩, f.defers, _, [it_803], (GLe.trans hl_6 (GLe.trans hl_427 (GLe.trans hl_614 hl_797))), m, _, _, rfl, rfl, o_804⟩
   ·refine k_false f rfl hc_801 ?_
    refine k_skip ?_
    refine k_seq (k_region ?_)
    refine l_boxAgg 1 0 (ds := [v_19]) m Ag29 f rfl rfl rfl rfl rfl fun a f => ?_
    refine l_boxStore 0 0 (ds := [v_19]) m Tryd.sizeOf29 f rfl rfl rfl (ones_cons (Ow.one1 2 m o_613 rfl) ones_nil) rfl (Nat.le_of_ble_eq_true rfl) rfl fun w m => ?_
    refine l_as f rfl rfl fun a f => ?_
    refine l_nil ?_
    refine k_ret ?_
    have rc_807 := rr_agg (P := Tryd.prog) 0 m Ag29 f (s := 2) rfl rfl rfl
    have m := m.front 2 rfl
    have m := m.eraseAt 2
    have m := m.eraseAt 1
    obtain rfl := sj hd
    exact ⟨[(.agg #[v_19]), (.bool true)], ⟨rc_807, f.get _ _ rfl, trivial⟩, f.defers, _, [it_612], (GLe.trans hl_6 (GLe.trans hl_427 (GLe.trans hl_614 hl_797))), m, _, _, rfl, rfl, o_613⟩

theorem Wk.impl_inRange {W w : World} {G : GH} {H : List Itm} {x0 : Int} {x1 : Int} {x2 : Int} (m : Mem W G w (H))  {y : Bool} (hd : D.impl_inRange x0 x1 x2 = some y) :
  Calls Tryd.prog 75 #[(.int .i64 x0), (.int .i64 x1), (.int .i64 x2)] w (Res W G H (fun _ Ho v => Ho = [] ∧ v = (.bool y))) := by
 refine calls_b (args := [(.int .i64 x0), (.int .i64 x1), (.int .i64 x2)]) (N := 15) [.tmp 6] Tryd.func75 rfl rfl (Nat.le_of_ble_eq_true rfl) rfl fun a f => ?_
 unfold D.impl_inRange at hd
 refine k_seq (k_region ?_)
 refine l_as f rfl rfl fun a f => ?_
 refine l_nil (k_seq (k_region ?_))
 refine l_mv f rfl rfl fun a f => ?_
 refine l_mv f rfl rfl fun a f => ?_
 refine l_in f rfl rfl rfl b_leq fun a f => ?_
 refine l_mv f rfl rfl fun a f => ?_
 refine l_cut 4 (fun a w => ∃ G_2, GLe G G_2 ∧ Mem W G_2 w (H) ∧ Fr a 15 [(0, (.int .i64 x0)), (1, (.int .i64 x1)), (2, (.int .i64 x2)), (7, (.int .i64 x1)), (8, (.int .i64 x0)), (9, (.bool (decide (x1 ≤ x0)))), (10, (.bool (decide (x1 ≤ x0)))), (14, (.bool ((decide (x1 ≤ x0)) && (decide (x0 ≤ x2)))))]) ?_ ?_
 ·rcases Bool.eq_false_or_eq_true (decide (x1 ≤ x0)) with hc_1 | hc_1
  ·refine l_run f rfl rfl hc_1 ?_
   refine l_mv f rfl rfl fun a f => ?_
   refine l_run f rfl rfl hc_1 ?_
   refine l_mv f rfl rfl fun a f => ?_
   refine l_run f rfl rfl hc_1 ?_
   refine l_in f rfl rfl rfl b_leq fun a f => ?_
   refine l_op f rfl rfl rfl (r_pickT (f.eval rfl) hc_1 (f.eval rfl)) fun a f => ?_
   exact ⟨_, (GLe.refl _), m, f.weak ⟨rfl, rfl, rfl, rfl, rfl, rfl, rfl, by rw [hc_1]; rfl, trivial⟩⟩
  ·refine l_not' f rfl rfl rfl hc_1 fun a f => ?_
   refine l_not' f rfl rfl rfl hc_1 fun a f => ?_
   refine l_not' f rfl rfl rfl hc_1 fun a f => ?_
   refine l_op f rfl rfl rfl (r_pickF (f.eval rfl) hc_1 (f.eval rfl)) fun a f => ?_
   exact ⟨_, (GLe.refl _), m, f.weak ⟨rfl, rfl, rfl, rfl, rfl, rfl, rfl, by rw [hc_1]; rfl, trivial⟩⟩
 ·rintro a w ⟨G_2, hl_3, m, f⟩
  refine l_as f rfl rfl fun a f => ?_
  refine l_nil ?_
  refine k_ret ?_
  obtain rfl := sj hd
  exact ⟨[(.bool ((decide (x1 ≤ x0)) && (decide (x0 ≤ x2))))], ⟨f.get _ _ rfl, trivial⟩, f.defers, _, [], hl_3, m, rfl, rfl⟩

theorem Wk.impl_increasing {W w : World} {G : GH} {H : List Itm} {v0 : Value} {x0 : (List Int)} {x1 : Int} (m : Mem W G w (H)) (h0 : RSl (RI .i64) G v0 x0) {y : Bool} (hd : D.impl_increasing x0 x1 = some y) :
  Calls Tryd.prog 56 #[v0, (.int .i64 x1)] w (Res W G H (fun _ Ho v => Ho = [] ∧ v = (.bool y))) := by
 refine calls_b (args := [v0, (.int .i64 x1)]) (N := 33) [.tmp 4] Tryd.func56 rfl rfl (Nat.le_of_ble_eq_true rfl) rfl fun a f => ?_
 unfold D.impl_increasing at hd
 refine k_seq (k_region ?_)
 refine l_as f rfl rfl fun a f => ?_
 refine l_nil (k_seq (k_seq (k_region ?_)))
 refine l_mv f rfl rfl fun a f => ?_
 refine l_len Tryd.underlying31 f rfl rfl h0 fun a f => ?_
 refine l_mv f rfl rfl fun a f => ?_
 refine l_nil ?_
 obtain ⟨q_181, hl_182, hd⟩ := bind_some hd
 refine k_cut (fun a w => ∃ q_181' : Unit, q_181 = .inl q_181' ∧ ∃ (G_279 : GH), GLe G G_279 ∧ Fr a 33 [] ∧ Mem W G_279 w (H)) ?_ ?_
 ·refine k_block ?_
  refine k_loop (fun s_185 a w => ∃ x_188 : Int, x_188 = s_185 ∧ ∃ (G_187 : GH), GLe G G_187 ∧ Fr a 33 [(0, v0), (1, (.int .i64 x1)), (7, v0), (8, (.int .i64 (x0.length : Int))), (9, (.int .i64 x_188))] ∧ Mem W G_187 w (H)) hl_182 ⟨_, rfl, _, (GLe.refl _), f.weak ⟨rfl, rfl, rfl, rfl, rfl, trivial⟩, m⟩ ?_
  clear hl_182 f m
  rintro s_185 o_186 hs_183 hq_184 a w ⟨x_188, rfl, G_187, hl_189, f, m⟩
  have h0 := RSl.mono (RI.mono _) _ _ _ _ hl_189 h0
  refine k_seq (k_region ?_)
  refine l_in f rfl rfl rfl b_lss fun a f => ?_
  refine l_nil (k_seq ?_)
  rcases cond_some hs_183 with ⟨hc_281, hs_183⟩ | ⟨hc_281, hs_183⟩
  ·refine k_true f rfl hc_281 ?_
   refine k_skip ?_
   refine k_seq (k_block (k_seq (k_region ?_)))
   refine l_mv f rfl rfl fun a f => ?_
   obtain ⟨e_282, he_283, hs_183⟩ := bind_some hs_183
   refine l_at T31 f rfl rfl rfl h0 he_283 fun p_284 c_285 a g_286 h_287 f => ?_
   subst h_287
   refine l_loadAt m Pl2 f rfl rfl g_286 fun a f => ?_
   refine l_as f rfl rfl fun a f => ?_
   refine l_as f rfl rfl fun a f => ?_
   refine l_nil (k_seq (k_region ?_))
   refine l_mv f rfl rfl fun a f => ?_
   refine l_mv f rfl rfl fun a f => ?_
   refine l_in f rfl rfl rfl b_sub fun a f => ?_
   obtain ⟨y_288, hy_289, hs_183⟩ := bind_some hs_183
   refine l_res f rfl rfl Tryd.call75 (Wk.impl_inRange m  hy_289) fun v_293 G_290 Ho_294 w hl_291 m hQ_292 a f => ?_
   obtain ⟨rfl, rfl⟩ := hQ_292
   have h0 := RSl.mono (RI.mono _) _ _ _ _ hl_291 h0
   refine l_op f rfl rfl rfl (r_not (f.eval rfl)) fun a f => ?_
   refine l_mv f rfl rfl fun a f => ?_
   obtain ⟨b_344, hj_345, hs_183⟩ := bind_some hs_183
   refine l_cut 12 (fun a w => ∃ G_342, GLe G_290 G_342 ∧ Mem W G_342 w (H) ∧ Fr a 33 [(0, v0), (1, (.int .i64 x1)), (5, (.int .i64 x_188)), (6, (.int .i64 e_282)), (7, v0), (8, (.int .i64 (x0.length : Int))), (9, (.int .i64 x_188)), (14, (.int .i64 e_282)), (15, (.int .i64 x1)), (16, (.int .i64 (IntKind.i64.wrap (x1 - 1)))), (17, (.bool y_288)), (18, (.bool (!y_288))), (19, (.bool (!y_288))), (31, (.bool b_344))]) ?_ ?_
   ·rcases cond_some hj_345 with ⟨hc_295, hj_345⟩ | ⟨hc_295, hj_345⟩
    ·refine l_not' f rfl rfl rfl hc_295 fun a f => ?_
     refine l_not' f rfl rfl rfl hc_295 fun a f => ?_
     refine l_not' f rfl rfl rfl hc_295 fun a f => ?_
     refine l_notU f rfl rfl rfl fun a f => ?_
     refine l_notU f rfl rfl rfl fun a f => ?_
     refine l_notU f rfl rfl rfl fun a f => ?_
     refine l_notU f rfl rfl rfl fun a f => ?_
     refine l_notU f rfl rfl rfl fun a f => ?_
     refine l_notU f rfl rfl rfl fun a f => ?_
     refine l_notU f rfl rfl rfl fun a f => ?_
     refine l_not' f rfl rfl rfl hc_295 fun a f => ?_
     refine l_op f rfl rfl rfl (r_pickT (f.eval rfl) hc_295 (f.eval rfl)) fun a f => ?_
     obtain rfl := sj hj_345
     exact ⟨_, (GLe.refl _), m, f.weak ⟨rfl, rfl, rfl, rfl, rfl, rfl, rfl, rfl, rfl, rfl, rfl, rfl, rfl, rfl, trivial⟩⟩
    ·refine l_run f rfl rfl hc_295 ?_
     refine l_mv f rfl rfl fun a f => ?_
     refine l_run f rfl rfl hc_295 ?_
     refine l_in f rfl rfl rfl b_gtr fun a f => ?_
     refine l_run f rfl rfl hc_295 ?_
     refine l_mv f rfl rfl fun a f => ?_
     obtain ⟨b_361, hj_362, hj_345⟩ := bind_some hj_345
     refine l_cut 8 (fun a w => ∃ G_359, GLe G_290 G_359 ∧ Mem W G_359 w (H) ∧ Fr a 33 [(0, v0), (1, (.int .i64 x1)), (5, (.int .i64 x_188)), (6, (.int .i64 e_282)), (7, v0), (8, (.int .i64 (x0.length : Int))), (9, (.int .i64 x_188)), (14, (.int .i64 e_282)), (15, (.int .i64 x1)), (16, (.int .i64 (IntKind.i64.wrap (x1 - 1)))), (17, (.bool y_288)), (18, (.bool (!y_288))), (19, (.bool (!y_288))), (20, (.int .i64 x_188)), (21, (.bool (decide ((0 : Int) < x_188)))), (22, (.bool (decide ((0 : Int) < x_188)))), (30, (.bool b_361))]) ?_ ?_
     ·rcases cond_some hj_362 with ⟨hc_346, hj_362⟩ | ⟨hc_346, hj_362⟩
      ·refine l_run f rfl rfl hc_346 ?_
       refine l_mv f rfl rfl fun a f => ?_
       refine l_run f rfl rfl hc_346 ?_
       refine l_mv f rfl rfl fun a f => ?_
       refine l_run f rfl rfl hc_346 ?_
       refine l_in f rfl rfl rfl b_sub fun a f => ?_
       refine l_run f rfl rfl hc_346 ?_
       obtain ⟨e_363, he_364, hj_362⟩ := bind_some hj_362
       refine l_at T31 f rfl rfl rfl h0 he_364 fun p_365 c_366 a g_367 h_368 f => ?_
       subst h_368
       refine l_run f rfl rfl hc_346 ?_
       refine l_loadAt m Pl2 f rfl rfl g_367 fun a f => ?_
       refine l_run f rfl rfl hc_346 ?_
       refine l_mv f rfl rfl fun a f => ?_
       refine l_run f rfl rfl hc_346 ?_
       refine l_in f rfl rfl rfl b_geq fun a f => ?_
       refine l_run f rfl rfl hc_295 ?_
       refine l_op f rfl rfl rfl (r_pickT (f.eval rfl) hc_346 (f.eval rfl)) fun a f => ?_
       obtain rfl := sj hj_362
       exact ⟨_, (GLe.refl _), m, f.weak ⟨rfl, rfl, rfl, rfl, rfl, rfl, rfl, rfl, rfl, rfl, rfl, rfl, rfl, rfl, rfl, rfl, rfl, trivial⟩⟩
      ·refine l_not' f rfl rfl rfl hc_346 fun a f => ?_
       refine l_not' f rfl rfl rfl hc_346 fun a f => ?_
       refine l_not' f rfl rfl rfl hc_346 fun a f => ?_
       refine l_not' f rfl rfl rfl hc_346 fun a f => ?_
       refine l_not' f rfl rfl rfl hc_346 fun a f => ?_
       refine l_not' f rfl rfl rfl hc_346 fun a f => ?_
       refine l_not' f rfl rfl rfl hc_346 fun a f => ?_
       refine l_run f rfl rfl hc_295 ?_
       refine l_op f rfl rfl rfl (r_pickF (f.eval rfl) hc_346 (f.eval rfl)) fun a f => ?_
       obtain rfl := sj hj_362
       exact ⟨_, (GLe.refl _), m, f.weak ⟨rfl, rfl, rfl, rfl, rfl, rfl, rfl, rfl, rfl, rfl, rfl, rfl, rfl, rfl, rfl, rfl, rfl, trivial⟩⟩
     ·rintro a w ⟨G_359, hl_360, m, f⟩
      have h0 := RSl.mono (RI.mono _) _ _ _ _ hl_360 h0
      refine l_op f rfl rfl rfl (r_pickF (f.eval rfl) hc_295 (f.eval rfl)) fun a f => ?_
      obtain rfl := sj hj_345
      exact ⟨_, hl_360, m, f.weak ⟨rfl, rfl, rfl, rfl, rfl, rfl, rfl, rfl, rfl, rfl, rfl, rfl, rfl, rfl, trivial⟩⟩
   ·rintro a w ⟨G_342, hl_343, m, f⟩
    have h0 := RSl.mono (RI.mono _) _ _ _ _ hl_343 h0
    refine l_nil ?_
    rcases cond_some hs_183 with ⟨hc_369, hs_183⟩ | ⟨hc_369, hs_183⟩
    ·refine k_true f rfl hc_369 ?_
     refine k_seq (k_region ?_)
     refine l_as f rfl rfl fun a f => ?_
     refine l_nil ?_
     refine k_ret ?_
     obtain rfl := sj hs_183
     obtain rfl := hq_184 _ rfl
     obtain rfl := sj hd
     exact ⟨[(.bool false)], ⟨f.get _ _ rfl, trivial⟩, f.defers, _, [], (GLe.trans hl_189 (GLe.trans hl_291 hl_343)), m, rfl, rfl⟩
    ·refine k_false f rfl hc_369 ?_
     refine k_skip ?_
     refine k_region ?_
     refine l_in f rfl rfl rfl b_add fun a f => ?_
     refine l_mv f rfl rfl fun a f => ?_
     refine l_nil ?_
     obtain rfl := sj hs_183
     exact ⟨_, rfl, _, rfl, _, (GLe.trans hl_189 (GLe.trans hl_291 hl_343)), f.weak ⟨rfl, rfl, rfl, rfl, rfl, trivial⟩, m⟩
  ·refine k_false f rfl hc_281 ?_
   refine k_exit rfl ?_
   obtain rfl := sj hs_183
   obtain rfl := hq_184 _ rfl
   exact ⟨_, rfl, _, hl_189, f.weak trivial, m⟩
 ·rintro a w ⟨_, rfl, G_279, hl_280, f, m⟩
  refine k_seq (k_region ?_)
  refine l_as f rfl rfl fun a f => ?_
  refine l_nil ?_
  refine k_ret ?_
  obtain rfl := sj hd
  exact ⟨[(.bool true)], ⟨f.get _ _ rfl, trivial⟩, f.defers, _, [], hl_280, m, rfl, rfl⟩

theorem Wk.impl_vset_has {W w : World} {G : GH} {H : List Itm} {x0 : Int} {x1 : Int} (m : Mem W G w (H))  {y : Bool} (hd : D.impl_vset_has x0 x1 = some y) :
  Calls Tryd.prog 76 #[(.int .u32 x0), (.int .i64 x1)] w (Res W G H (fun _ Ho v => Ho = [] ∧ v = (.bool y))) := by
 refine calls_b (args := [(.int .u32 x0), (.int .i64 x1)]) (N := 10) [.tmp 4] Tryd.func76 rfl rfl (Nat.le_of_ble_eq_true rfl) rfl fun a f => ?_
 unfold D.impl_vset_has at hd
 refine k_seq (k_region ?_)
 refine l_as f rfl rfl fun a f => ?_
 refine l_nil (k_seq (k_region ?_))
 refine l_mv f rfl rfl fun a f => ?_
 refine l_mv f rfl rfl fun a f => ?_
 obtain ⟨hn_1, hd⟩ := cond_none hd
 refine l_op f rfl rfl rfl (r_shr (f.eval rfl) (f.eval rfl) hn_1) fun a f => ?_
 refine l_in f rfl rfl rfl b_and fun a f => ?_
 refine l_in f rfl rfl rfl b_eql fun a f => ?_
 refine l_as f rfl rfl fun a f => ?_
 refine l_nil ?_
 refine k_ret ?_
 obtain rfl := sj hd
 exact ⟨[(.bool ((iand .u32 (ishr .u32 x0 x1) 1) == 1))], ⟨f.get _ _ rfl, trivial⟩, f.defers, _, [], (GLe.refl _), m, rfl, rfl⟩

theorem Wk.impl_one {W w : World} {G : GH} {H : List Itm} {x0 : Int} (m : Mem W G w (H))  {y : Int} (hd : D.impl_one x0 = some y) :
  Calls Tryd.prog 48 #[(.int .i64 x0)] w (Res W G H (fun _ Ho v => Ho = [] ∧ v = (.int .u32 y))) := by
 refine calls_b (args := [(.int .i64 x0)]) (N := 5) [.tmp 2] Tryd.func48 rfl rfl (Nat.le_of_ble_eq_true rfl) rfl fun a f => ?_
 unfold D.impl_one at hd
 refine k_seq (k_region ?_)
 refine l_as f rfl rfl fun a f => ?_
 refine l_nil (k_seq (k_region ?_))
 refine l_mv f rfl rfl fun a f => ?_
 obtain ⟨hn_1, hd⟩ := cond_none hd
 refine l_op f rfl rfl rfl (r_shl (f.eval rfl) (f.eval rfl) hn_1) fun a f => ?_
 refine l_as f rfl rfl fun a f => ?_
 refine l_nil ?_
 refine k_ret ?_
 obtain rfl := sj hd
 exact ⟨[(.int .u32 (ishl .u32 1 x0))], ⟨f.get _ _ rfl, trivial⟩, f.defers, _, [], (GLe.refl _), m, rfl, rfl⟩

end Go.Proofs.YtehnblgkgaakeaaDoor
