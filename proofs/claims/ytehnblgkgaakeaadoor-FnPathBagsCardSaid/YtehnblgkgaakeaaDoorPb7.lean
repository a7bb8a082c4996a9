/- Parts of the proof: EEW, Qa, Qb, Pa, S1D, Pb, Pc, Pd, Pe, Pf, Pg, T1D. -/
import Derived.Test.YtehnblgkgaakeaaDoorPb6
import Derived.Test.YtehnblgkgaakeaaDoorProg
import Derived.KernelRfl
import Derived.Lib.TrailingZeros
set_option linter.unusedVariables false
set_option linter.unusedSimpArgs false
set_option linter.unusedSectionVars false
set_option maxRecDepth 100000
namespace Go.Proofs.YtehnblgkgaakeaaDoor
open Go Go.Sx


theorem Wk.impl_Separation {W w : World} {G : GH} {H : List Itm} {v0_0 : Value} {v1 : Value} {x0_0 : (List (List Int))} {x1 : (List Int)} (hW : TabW W) (m : Mem W G w (H)) (h0_0 : RSl (RSl (RI .i64)) G v0_0 x0_0) (h1 : RSl (RI .i64) G v1 x1) {y : Int} (hd : D.impl_Separation x0_0 x1 = some y) :
  Calls Tryd.prog 11 #[(.agg #[v0_0]), v1] w (Res W G H (fun _ Ho v => Ho = [] ∧ v = (.int .i64 y))) := by
 refine calls_b (args := [(.agg #[v0_0]), v1]) (N := 34) [.tmp 4] Tryd.func11 rfl rfl (Nat.le_of_ble_eq_true rfl) rfl (fun a f => ?_)
 unfold D.impl_Separation at hd
 refine k_seq ?_
 refine k_region ?_
 refine l_box (cs := [v0_0]) m f rfl rfl rfl (fun b_2 w a m f => ?_)
 refine l_op f rfl rfl rfl (r_assign (f.eval rfl)) (fun a f => ?_)
 refine l_nil ?_
 refine k_seq ?_
 refine k_seq ?_
 refine k_region ?_
 refine l_boxAgg 0 0 (ds := [v0_0]) m Ag29 f rfl rfl rfl rfl rfl (fun a f => ?_)
 refine l_op f rfl rfl rfl (r_move (f.eval rfl)) (fun a f => ?_)
 obtain ⟨y_3, hy_4, hd⟩ := bind_some hd
 refine l_res f rfl rfl Tryd.call43 (Wk.impl_OrderOk m h0_0 h1 hy_4) (fun v_8 G_5 Ho_9 w hl_6 m hQ_7 a f => ?_)
 obtain ⟨rfl, rfl⟩ := hQ_7
 have h0_0 := RSl.mono (RSl.mono (RI.mono _)) _ _ _ _ hl_6 h0_0
 have h1 := RSl.mono (RI.mono _) _ _ _ _ hl_6 h1
 have m : Mem W G_5 w (Itm.box b_2 29 [v0_0] :: H) := m
 refine l_op f rfl rfl rfl (r_not (f.eval rfl)) (fun a f => ?_)
 refine l_nil ?_
 rcases cond_some hd with ⟨hc_10, hd⟩ | ⟨hc_10, hd⟩
 ·refine k_true f rfl hc_10 ?_
  refine k_seq ?_
  refine k_region ?_
  refine l_op f rfl rfl rfl (r_assign (f.eval rfl)) (fun a f => ?_)
  refine l_nil ?_
  refine k_ret ?_
  have m : Mem W G_5 w H := Mem.drop (H' := [Itm.box b_2 29 [v0_0]]) m
  obtain rfl := Option.some.inj hd
  exact ⟨[(.int .i64 (-1))], ⟨f.get _ _ rfl, trivial⟩, f.defers, _, [], hl_6, m, rfl, rfl⟩
 ·refine k_false f rfl hc_10 ?_
  refine k_skip ?_
  refine k_seq ?_
  refine k_region ?_
  refine l_boxAgg 0 0 (ds := [v0_0]) m Ag29 f rfl rfl rfl rfl rfl (fun a f => ?_)
  obtain ⟨y_11, hy_12, hd⟩ := bind_some hd
  refine l_res f rfl rfl Tryd.call46 (Wk.impl_netsOf m h0_0 hy_12) (fun v_16 G_13 Ho_17 w hl_14 m hQ_15 a f => ?_)
  obtain ⟨v_18, it_19, rfl, rfl, o_20⟩ := hQ_15
  have h0_0 := RSl.mono (RSl.mono (RI.mono _)) _ _ _ _ hl_14 h0_0
  have h1 := RSl.mono (RI.mono _) _ _ _ _ hl_14 h1
  have m : Mem W G_13 w (it_19 :: Itm.box b_2 29 [v0_0] :: H) := m
  refine l_op f rfl rfl rfl (r_assign (f.eval rfl)) (fun a f => ?_)
  refine l_op f rfl rfl rfl (r_assign (f.eval rfl)) (fun a f => ?_)
  refine l_op f rfl rfl rfl (r_assign (f.eval rfl)) (fun a f => ?_)
  refine l_nil ?_
  refine k_seq ?_
  refine k_seq ?_
  refine k_region ?_
  refine l_op f rfl rfl rfl (r_move (f.eval rfl)) (fun a f => ?_)
  refine l_len Tryd.underlying31 f rfl rfl h1 (fun a f => ?_)
  refine l_op f rfl rfl rfl (r_move (f.eval rfl)) (fun a f => ?_)
  refine l_nil ?_
  obtain ⟨q_88, hl_89, hd⟩ := bind_some hd
  refine k_cut (fun a w => ∃ x_131 : Int, x_131 = q_88 ∧ ∃ (G_130 : GH), GLe G_13 G_130 ∧ Fr a 34 [(7, (.int .i64 x_131))] ∧ Mem W G_130 w (H)) ?_ ?_
  ·refine k_block ?_
   have m : Mem W G_13 w (it_19 :: H) := m.eraseAt 1
   refine k_loop (fun s_92 a w => ∃ x_95 : Int, ∃ x_96 : Int, ∃ x_97 : Int, (x_95, x_96, x_97) = s_92 ∧ ∃ (G_94 : GH), GLe G_13 G_94 ∧ Fr a 34 [(5, v_18), (6, (.int .u32 x_95)), (7, (.int .i64 x_96)), (16, v1), (17, (.int .i64 (x1.length : Int))), (18, (.int .i64 x_97))] ∧ Mem W G_94 w (it_19 :: H)) hl_89 ⟨_, _, _, rfl, _, (GLe.refl _), f.weak ⟨rfl, rfl, rfl, rfl, rfl, rfl, trivial⟩, m⟩ ?_
   clear hl_89 f m
   rintro s_92 o_93 hs_90 hq_91 a w ⟨x_95, x_96, x_97, rfl, G_94, hl_98, f, m⟩
   have h1 := RSl.mono (RI.mono _) _ _ _ _ hl_98 h1
   have o_20 := Ow.mono (RI.mono _) hl_98 o_20
   refine k_seq ?_
   refine k_region ?_
   refine l_op f rfl rfl rfl (r_int (f.eval rfl) (f.eval rfl) b_lss) (fun a f => ?_)
   refine l_nil ?_
   refine k_seq ?_
   rcases cond_some hs_90 with ⟨hc_133, hs_90⟩ | ⟨hc_133, hs_90⟩
   ·refine k_true f rfl hc_133 ?_
    refine k_skip ?_
    refine k_seq ?_
    refine k_block ?_
    refine k_seq ?_
    refine k_region ?_
    obtain ⟨e_134, he_135, hs_90⟩ := bind_some hs_90
    refine l_at T31 f rfl rfl rfl h1 he_135 (fun p_136 c_137 a g_138 h_139 f => ?_)
    subst h_139
    refine l_loadAt m Pl2 f rfl rfl g_138 (fun a f => ?_)
    refine l_op f rfl rfl rfl (r_assign (f.eval rfl)) (fun a f => ?_)
    refine l_nil ?_
    refine k_seq ?_
    refine k_region ?_
    refine l_op f rfl rfl rfl (r_move (f.eval rfl)) (fun a f => ?_)
    refine l_op f rfl rfl rfl (r_move (f.eval rfl)) (fun a f => ?_)
    obtain ⟨y_140, hy_141, hs_90⟩ := bind_some hs_90
    refine l_res f rfl rfl Tryd.call48 (Wk.impl_one m  hy_141) (fun v_145 G_142 Ho_146 w hl_143 m hQ_144 a f => ?_)
    obtain ⟨rfl, rfl⟩ := hQ_144
    have h1 := RSl.mono (RI.mono _) _ _ _ _ hl_143 h1
    have o_20 := Ow.mono (RI.mono _) hl_143 o_20
    have m : Mem W G_142 w (it_19 :: H) := m
    refine l_op f rfl rfl rfl (r_int (f.eval rfl) (f.eval rfl) b_or) (fun a f => ?_)
    refine l_op f rfl rfl rfl (r_assign (f.eval rfl)) (fun a f => ?_)
    refine l_nil ?_
    refine k_region ?_
    refine l_op f rfl rfl rfl (r_move (f.eval rfl)) (fun a f => ?_)
    refine l_op f rfl rfl rfl (r_move (f.eval rfl)) (fun a f => ?_)
    refine l_op f rfl rfl rfl (r_move (f.eval rfl)) (fun a f => ?_)
    obtain ⟨y_147, hy_148, hs_90⟩ := bind_some hs_90
    refine l_res f rfl rfl Tryd.call49 (Ow.lendCall (RI.mono _) 0 o_20 m rfl (fun G_149 hl_150 m h_151 => Wk.impl_openOf hW m h_151 hy_148) (fun _ _ _ _ h => h)) (fun v_155 G_152 Ho_156 w hl_153 m hQ_154 a f => ?_)
    obtain ⟨rfl, rfl⟩ := hQ_154
    have h1 := RSl.mono (RI.mono _) _ _ _ _ hl_153 h1
    have o_20 := Ow.mono (RI.mono _) hl_153 o_20
    have m : Mem W G_152 w (it_19 :: H) := m
    obtain ⟨y_157, hy_158, hs_90⟩ := bind_some hs_90
    refine l_res f rfl rfl Tryd.call50 (Wk.impl_vset_size m  hy_158) (fun v_162 G_159 Ho_163 w hl_160 m hQ_161 a f => ?_)
    obtain ⟨rfl, rfl⟩ := hQ_161
    have h1 := RSl.mono (RI.mono _) _ _ _ _ hl_160 h1
    have o_20 := Ow.mono (RI.mono _) hl_160 o_20
    have m : Mem W G_159 w (it_19 :: H) := m
    refine l_op f rfl rfl rfl (r_max2 (f.eval rfl) (f.eval rfl)) (fun a f => ?_)
    refine l_op f rfl rfl rfl (r_assign (f.eval rfl)) (fun a f => ?_)
    refine l_nil ?_
    refine k_region ?_
    refine l_op f rfl rfl rfl (r_int (f.eval rfl) (f.eval rfl) b_add) (fun a f => ?_)
    refine l_op f rfl rfl rfl (r_move (f.eval rfl)) (fun a f => ?_)
    refine l_nil ?_
    obtain rfl := Option.some.inj hs_90
    exact ⟨_, rfl, _, _, _, rfl, _, (GLe.trans hl_98 (GLe.trans hl_143 (GLe.trans hl_153 hl_160))), f.weak ⟨rfl, rfl, rfl, rfl, rfl, rfl, trivial⟩, m⟩
   ·refine k_false f rfl hc_133 ?_
    refine k_exit rfl ?_
    have m : Mem W G_94 w H := Mem.drop (H' := [it_19]) m
    obtain rfl := Option.some.inj hs_90
    obtain rfl := hq_91 _ rfl
    exact ⟨_, rfl, _, hl_98, f.weak ⟨rfl, trivial⟩, m⟩
  ·rintro a w ⟨x_131, rfl, G_130, hl_132, f, m⟩
   refine k_seq ?_
   refine k_region ?_
   refine l_op f rfl rfl rfl (r_move (f.eval rfl)) (fun a f => ?_)
   refine l_op f rfl rfl rfl (r_assign (f.eval rfl)) (fun a f => ?_)
   refine l_nil ?_
   refine k_ret ?_
   obtain rfl := Option.some.inj hd
   exact ⟨[(.int .i64 x_131)], ⟨f.get _ _ rfl, trivial⟩, f.defers, _, [], (GLe.trans hl_6 (GLe.trans hl_14 hl_132)), m, rfl, rfl⟩

theorem Wk.spec_SetOk {W w : World} {G : GH} {H : List Itm} {v0_0 : Value} {v1 : Value} {x0_0 : (List (List Int))} {x1 : (List Int)} (m : Mem W G w (H)) (h0_0 : RSl (RSl (RI .i64)) G v0_0 x0_0) (h1 : RSl (RI .i64) G v1 x1) {y : Bool} (hd : D.spec_SetOk x0_0 x1 = some y) :
  Calls Tryd.prog 52 #[(.agg #[v0_0]), v1] w (Res W G H (fun _ Ho v => Ho = [] ∧ v = (.bool y))) := by
 refine calls_b (args := [(.agg #[v0_0]), v1]) (N := 13) [.tmp 4] Tryd.func52 rfl rfl (Nat.le_of_ble_eq_true rfl) rfl (fun a f => ?_)
 unfold D.spec_SetOk at hd
 refine k_seq ?_
 refine k_region ?_
 refine l_box (cs := [v0_0]) m f rfl rfl rfl (fun b_2 w a m f => ?_)
 refine l_op f rfl rfl rfl (r_assign (f.eval rfl)) (fun a f => ?_)
 refine l_nil ?_
 refine k_seq ?_
 refine k_region ?_
 refine l_boxAgg 0 0 (ds := [v0_0]) m Ag29 f rfl rfl rfl rfl rfl (fun a f => ?_)
 obtain ⟨y_3, hy_4, hd⟩ := bind_some hd
 refine l_res f rfl rfl Tryd.call51 (Wk.spec_GraphOk m h0_0 hy_4) (fun v_8 G_5 Ho_9 w hl_6 m hQ_7 a f => ?_)
 obtain ⟨rfl, rfl⟩ := hQ_7
 have h0_0 := RSl.mono (RSl.mono (RI.mono _)) _ _ _ _ hl_6 h0_0
 have h1 := RSl.mono (RI.mono _) _ _ _ _ hl_6 h1
 have m : Mem W G_5 w (Itm.box b_2 29 [v0_0] :: H) := m
 refine l_op f rfl rfl rfl (r_move (f.eval rfl)) (fun a f => ?_)
 obtain ⟨b_41, hj_42, hd⟩ := bind_some hd
 refine l_cut 5 (fun a w => ∃ G_39, GLe G_5 G_39 ∧ Mem W G_39 w (Itm.box b_2 29 [v0_0] :: H) ∧ Fr a 13 [(0, (.agg #[v0_0])), (1, v1), (2, (.pointer (some ⟨b_2, 0, none⟩))), (5, (.agg #[v0_0])), (6, (.bool y_3)), (7, (.bool y_3)), (12, (.bool b_41))]) ?_ ?_
 ·rcases cond_some hj_42 with ⟨hc_10, hj_42⟩ | ⟨hc_10, hj_42⟩
  ·refine l_run f rfl rfl hc_10 ?_
   refine l_op f rfl rfl rfl (r_move (f.eval rfl)) (fun a f => ?_)
   refine l_run f rfl rfl hc_10 ?_
   refine l_boxAgg 0 0 (ds := [v0_0]) m Ag29 f rfl rfl rfl rfl rfl (fun a f => ?_)
   refine l_run f rfl rfl hc_10 ?_
   obtain ⟨y_43, hy_44, hj_42⟩ := bind_some hj_42
   refine l_res f rfl rfl Tryd.call89 (Wk.spec_l1Size m h0_0 hy_44) (fun v_48 G_45 Ho_49 w hl_46 m hQ_47 a f => ?_)
   obtain ⟨rfl, rfl⟩ := hQ_47
   have h0_0 := RSl.mono (RSl.mono (RI.mono _)) _ _ _ _ hl_46 h0_0
   have h1 := RSl.mono (RI.mono _) _ _ _ _ hl_46 h1
   have m : Mem W G_45 w (Itm.box b_2 29 [v0_0] :: H) := m
   refine l_run f rfl rfl hc_10 ?_
   obtain ⟨y_50, hy_51, hj_42⟩ := bind_some hj_42
   refine l_res f rfl rfl Tryd.call98 (Wk.spec_l1Set m h1 hy_51) (fun v_55 G_52 Ho_56 w hl_53 m hQ_54 a f => ?_)
   obtain ⟨rfl, rfl⟩ := hQ_54
   have h0_0 := RSl.mono (RSl.mono (RI.mono _)) _ _ _ _ hl_53 h0_0
   have h1 := RSl.mono (RI.mono _) _ _ _ _ hl_53 h1
   have m : Mem W G_52 w (Itm.box b_2 29 [v0_0] :: H) := m
   refine l_op f rfl rfl rfl (r_pickT (f.eval rfl) hc_10 (f.eval rfl)) (fun a f => ?_)
   obtain rfl := Option.some.inj hj_42
   exact ⟨_, (GLe.trans hl_46 hl_53), m, f.weak ⟨rfl, rfl, rfl, rfl, rfl, rfl, rfl, trivial⟩⟩
  ·refine l_not' f rfl rfl rfl hc_10 (fun a f => ?_)
   refine l_not' f rfl rfl rfl hc_10 (fun a f => ?_)
   refine l_not' f rfl rfl rfl hc_10 (fun a f => ?_)
   refine l_not' f rfl rfl rfl hc_10 (fun a f => ?_)
   refine l_op f rfl rfl rfl (r_pickF (f.eval rfl) hc_10 (f.eval rfl)) (fun a f => ?_)
   obtain rfl := Option.some.inj hj_42
   exact ⟨_, (GLe.refl _), m, f.weak ⟨rfl, rfl, rfl, rfl, rfl, rfl, rfl, trivial⟩⟩
 ·rintro a w ⟨G_39, hl_40, m, f⟩
  have h0_0 := RSl.mono (RSl.mono (RI.mono _)) _ _ _ _ hl_40 h0_0
  have h1 := RSl.mono (RI.mono _) _ _ _ _ hl_40 h1
  refine l_op f rfl rfl rfl (r_assign (f.eval rfl)) (fun a f => ?_)
  refine l_nil ?_
  refine k_ret ?_
  have m : Mem W G_39 w H := Mem.drop (H' := [Itm.box b_2 29 [v0_0]]) m
  obtain rfl := Option.some.inj hd
  exact ⟨[(.bool b_41)], ⟨f.get _ _ rfl, trivial⟩, f.defers, _, [], (GLe.trans hl_6 hl_40), m, rfl, rfl⟩

theorem Wk.spec_l12Whole {W w : World} {G : GH} {H : List Itm} {v0 : Value} {x0 : (List (List Int))} {x1 : Int} (m : Mem W G w (H)) (h0 : RSl (RSl (RI .i64)) G v0 x0) {y : Bool} (hd : D.spec_l12Whole x0 x1 = some y) :
  Calls Tryd.prog 53 #[v0, (.int .i64 x1)] w (Res W G H (fun _ Ho v => Ho = [] ∧ v = (.bool y))) := by
 refine calls_b (args := [v0, (.int .i64 x1)]) (N := 37) [.tmp 4] Tryd.func53 rfl rfl (Nat.le_of_ble_eq_true rfl) rfl (fun a f => ?_)
 unfold D.spec_l12Whole at hd
 refine k_seq ?_
 refine k_region ?_
 refine l_op f rfl rfl rfl (r_assign (f.eval rfl)) (fun a f => ?_)
 refine l_nil ?_
 refine k_seq ?_
 refine k_region ?_
 refine l_op f rfl rfl rfl (r_assign (f.eval rfl)) (fun a f => ?_)
 refine l_nil ?_
 refine k_seq ?_
 refine k_region ?_
 refine l_op f rfl rfl rfl (r_assign (f.eval rfl)) (fun a f => ?_)
 refine l_nil ?_
 refine k_seq ?_
 refine k_region ?_
 refine l_op f rfl rfl rfl (r_assign (f.eval rfl)) (fun a f => ?_)
 refine l_nil ?_
 refine k_seq ?_
 refine k_seq ?_
 refine k_region ?_
 refine l_op f rfl rfl rfl (r_assign (f.eval rfl)) (fun a f => ?_)
 refine l_nil ?_
 obtain ⟨q_38, hl_39, hd⟩ := bind_some hd
 refine k_cut (fun a w => ∃ x_67 : Int, ∃ x_68 : Int, ∃ x_69 : Int, (x_67, x_68, x_69) = q_38 ∧ ∃ (G_66 : GH), GLe G G_66 ∧ Fr a 37 [(5, (.int .i64 x_67)), (6, (.int .i64 x_68)), (7, (.int .i64 x_69))] ∧ Mem W G_66 w (H)) ?_ ?_
 ·refine k_block ?_
  refine k_loop (fun s_42 a w => ∃ x_45 : Int, ∃ x_46 : Int, ∃ x_47 : Int, ∃ x_48 : Int, (x_45, x_46, x_47, x_48) = s_42 ∧ ∃ (G_44 : GH), GLe G G_44 ∧ Fr a 37 [(0, v0), (1, (.int .i64 x1)), (5, (.int .i64 x_45)), (6, (.int .i64 x_46)), (7, (.int .i64 x_47)), (8, (.int .i64 x_48))] ∧ Mem W G_44 w (H)) hl_39 ⟨_, _, _, _, rfl, _, (GLe.refl _), f.weak ⟨rfl, rfl, rfl, rfl, rfl, rfl, trivial⟩, m⟩ ?_
  clear hl_39 f m
  rintro s_42 o_43 hs_40 hq_41 a w ⟨x_45, x_46, x_47, x_48, rfl, G_44, hl_49, f, m⟩
  have h0 := RSl.mono (RSl.mono (RI.mono _)) _ _ _ _ hl_49 h0
  refine k_seq ?_
  refine k_seq ?_
  refine k_region ?_
  refine l_op f rfl rfl rfl (r_move (f.eval rfl)) (fun a f => ?_)
  refine l_op f rfl rfl rfl (r_move (f.eval rfl)) (fun a f => ?_)
  refine l_len Tryd.underlying27 f rfl rfl h0 (fun a f => ?_)
  refine l_op f rfl rfl rfl (r_int (f.eval rfl) (f.eval rfl) b_lss) (fun a f => ?_)
  refine l_nil ?_
  rcases cond_some hs_40 with ⟨hc_71, hs_40⟩ | ⟨hc_71, hs_40⟩
  ·refine k_true f rfl hc_71 ?_
   refine k_skip ?_
   refine k_seq ?_
   refine k_block ?_
   refine k_seq ?_
   refine k_region ?_
   refine l_op f rfl rfl rfl (r_move (f.eval rfl)) (fun a f => ?_)
   refine l_op f rfl rfl rfl (r_move (f.eval rfl)) (fun a f => ?_)
   obtain ⟨e_72, he_73, hs_40⟩ := bind_some hs_40
   refine l_at T27 f rfl rfl rfl h0 he_73 (fun p_74 c_75 a g_76 h_77 f => ?_)
   refine l_loadAt m Pl31 f rfl rfl g_76 (fun a f => ?_)
   refine l_op f rfl rfl rfl (r_move (f.eval rfl)) (fun a f => ?_)
   obtain ⟨y_78, hy_79, hs_40⟩ := bind_some hs_40
   refine l_res f rfl rfl Tryd.call68 (Wk.spec_l1Has m h_77 hy_79) (fun v_83 G_80 Ho_84 w hl_81 m hQ_82 a f => ?_)
   obtain ⟨rfl, rfl⟩ := hQ_82
   have h0 := RSl.mono (RSl.mono (RI.mono _)) _ _ _ _ hl_81 h0
   have g_76 := At.mono hl_81 g_76
   have h_77 := RSl.mono (RI.mono _) _ _ _ _ hl_81 h_77
   have m : Mem W G_80 w (H) := m
   refine l_nil ?_
   rcases cond_some hs_40 with ⟨hc_85, hs_40⟩ | ⟨hc_85, hs_40⟩
   ·refine k_true f rfl hc_85 ?_
    refine k_seq ?_
    refine k_seq ?_
    refine k_region ?_
    refine l_op f rfl rfl rfl (r_move (f.eval rfl)) (fun a f => ?_)
    refine l_op f rfl rfl rfl (r_int (f.eval rfl) (f.eval rfl) b_lss) (fun a f => ?_)
    refine l_nil ?_
    rcases cond_some hs_40 with ⟨hc_86, hs_40⟩ | ⟨hc_86, hs_40⟩
    ·refine k_true f rfl hc_86 ?_
     refine k_region ?_
     refine l_op f rfl rfl rfl (r_move (f.eval rfl)) (fun a f => ?_)
     refine l_op f rfl rfl rfl (r_assign (f.eval rfl)) (fun a f => ?_)
     refine l_nil ?_
     refine k_seq ?_
     refine k_region ?_
     refine l_op f rfl rfl rfl (r_move (f.eval rfl)) (fun a f => ?_)
     refine l_op f rfl rfl rfl (r_assign (f.eval rfl)) (fun a f => ?_)
     refine l_nil ?_
     refine k_region ?_
     refine l_op f rfl rfl rfl (r_move (f.eval rfl)) (fun a f => ?_)
     refine l_op f rfl rfl rfl (r_int (f.eval rfl) (f.eval rfl) b_add) (fun a f => ?_)
     refine l_op f rfl rfl rfl (r_assign (f.eval rfl)) (fun a f => ?_)
     refine l_nil ?_
     refine k_region ?_
     refine l_op f rfl rfl rfl (r_move (f.eval rfl)) (fun a f => ?_)
     refine l_op f rfl rfl rfl (r_int (f.eval rfl) (f.eval rfl) b_add) (fun a f => ?_)
     refine l_op f rfl rfl rfl (r_assign (f.eval rfl)) (fun a f => ?_)
     refine l_nil ?_
     obtain rfl := Option.some.inj hs_40
     exact ⟨_, rfl, _, _, _, _, rfl, _, (GLe.trans hl_49 hl_81), f.weak ⟨rfl, rfl, rfl, rfl, rfl, rfl, trivial⟩, m⟩
    ·refine k_false f rfl hc_86 ?_
     refine k_skip ?_
     refine k_seq ?_
     refine k_region ?_
     refine l_op f rfl rfl rfl (r_move (f.eval rfl)) (fun a f => ?_)
     refine l_op f rfl rfl rfl (r_assign (f.eval rfl)) (fun a f => ?_)
     refine l_nil ?_
     refine k_region ?_
     refine l_op f rfl rfl rfl (r_move (f.eval rfl)) (fun a f => ?_)
     refine l_op f rfl rfl rfl (r_int (f.eval rfl) (f.eval rfl) b_add) (fun a f => ?_)
     refine l_op f rfl rfl rfl (r_assign (f.eval rfl)) (fun a f => ?_)
     refine l_nil ?_
     refine k_region ?_
     refine l_op f rfl rfl rfl (r_move (f.eval rfl)) (fun a f => ?_)
     refine l_op f rfl rfl rfl (r_int (f.eval rfl) (f.eval rfl) b_add) (fun a f => ?_)
     refine l_op f rfl rfl rfl (r_assign (f.eval rfl)) (fun a f => ?_)
     refine l_nil ?_
     obtain rfl := Option.some.inj hs_40
     exact ⟨_, rfl, _, _, _, _, rfl, _, (GLe.trans hl_49 hl_81), f.weak ⟨rfl, rfl, rfl, rfl, rfl, rfl, trivial⟩, m⟩
   ·refine k_false f rfl hc_85 ?_
    refine k_skip ?_
    refine k_region ?_
    refine l_op f rfl rfl rfl (r_move (f.eval rfl)) (fun a f => ?_)
    refine l_op f rfl rfl rfl (r_int (f.eval rfl) (f.eval rfl) b_add) (fun a f => ?_)
    refine l_op f rfl rfl rfl (r_assign (f.eval rfl)) (fun a f => ?_)
    refine l_nil ?_
    obtain rfl := Option.some.inj hs_40
    exact ⟨_, rfl, _, _, _, _, rfl, _, (GLe.trans hl_49 hl_81), f.weak ⟨rfl, rfl, rfl, rfl, rfl, rfl, trivial⟩, m⟩
  ·refine k_false f rfl hc_71 ?_
   refine k_exit rfl ?_
   obtain rfl := Option.some.inj hs_40
   obtain rfl := hq_41 _ rfl
   exact ⟨_, _, _, rfl, _, hl_49, f.weak ⟨rfl, rfl, rfl, trivial⟩, m⟩
 ·rintro a w ⟨x_67, x_68, x_69, rfl, G_66, hl_70, f, m⟩
  refine k_seq ?_
  refine k_region ?_
  refine l_op f rfl rfl rfl (r_move (f.eval rfl)) (fun a f => ?_)
  refine l_op f rfl rfl rfl (r_int (f.eval rfl) (f.eval rfl) b_gtr) (fun a f => ?_)
  refine l_op f rfl rfl rfl (r_move (f.eval rfl)) (fun a f => ?_)
  refine l_cut 7 (fun a w => ∃ G_88, GLe G_66 G_88 ∧ Mem W G_88 w (H) ∧ Fr a 37 [(5, (.int .i64 x_67)), (6, (.int .i64 x_68)), (7, (.int .i64 x_69)), (27, (.int .i64 x_69)), (28, (.bool (decide ((0 : Int) < x_69)))), (29, (.bool (decide ((0 : Int) < x_69)))), (36, (.bool ((decide ((0 : Int) < x_69)) && ((IntKind.i64.wrap ((IntKind.i64.wrap (x_68 - x_67)) + 1)) == x_69))))]) ?_ ?_
  ·rcases Bool.eq_false_or_eq_true (decide ((0 : Int) < x_69)) with hc_87 | hc_87
   ·refine l_run f rfl rfl hc_87 ?_
    refine l_op f rfl rfl rfl (r_move (f.eval rfl)) (fun a f => ?_)
    refine l_run f rfl rfl hc_87 ?_
    refine l_op f rfl rfl rfl (r_move (f.eval rfl)) (fun a f => ?_)
    refine l_run f rfl rfl hc_87 ?_
    refine l_op f rfl rfl rfl (r_int (f.eval rfl) (f.eval rfl) b_sub) (fun a f => ?_)
    refine l_run f rfl rfl hc_87 ?_
    refine l_op f rfl rfl rfl (r_int (f.eval rfl) (f.eval rfl) b_add) (fun a f => ?_)
    refine l_run f rfl rfl hc_87 ?_
    refine l_op f rfl rfl rfl (r_move (f.eval rfl)) (fun a f => ?_)
    refine l_run f rfl rfl hc_87 ?_
    refine l_op f rfl rfl rfl (r_int (f.eval rfl) (f.eval rfl) b_eql) (fun a f => ?_)
    refine l_op f rfl rfl rfl (r_pickT (f.eval rfl) hc_87 (f.eval rfl)) (fun a f => ?_)
    exact ⟨_, (GLe.refl _), m, f.weak ⟨rfl, rfl, rfl, rfl, rfl, rfl, by rw [hc_87]; rfl, trivial⟩⟩
   ·refine l_not' f rfl rfl rfl hc_87 (fun a f => ?_)
    refine l_not' f rfl rfl rfl hc_87 (fun a f => ?_)
    refine l_not' f rfl rfl rfl hc_87 (fun a f => ?_)
    refine l_not' f rfl rfl rfl hc_87 (fun a f => ?_)
    refine l_not' f rfl rfl rfl hc_87 (fun a f => ?_)
    refine l_not' f rfl rfl rfl hc_87 (fun a f => ?_)
    refine l_op f rfl rfl rfl (r_pickF (f.eval rfl) hc_87 (f.eval rfl)) (fun a f => ?_)
    exact ⟨_, (GLe.refl _), m, f.weak ⟨rfl, rfl, rfl, rfl, rfl, rfl, by rw [hc_87]; rfl, trivial⟩⟩
  ·rintro a w ⟨G_88, hl_89, m, f⟩
   refine l_op f rfl rfl rfl (r_assign (f.eval rfl)) (fun a f => ?_)
   refine l_nil ?_
   refine k_ret ?_
   obtain rfl := Option.some.inj hd
   exact ⟨[(.bool ((decide ((0 : Int) < x_69)) && ((IntKind.i64.wrap ((IntKind.i64.wrap (x_68 - x_67)) + 1)) == x_69)))], ⟨f.get _ _ rfl, trivial⟩, f.defers, _, [], (GLe.trans hl_70 hl_89), m, rfl, rfl⟩

theorem Wk.spec_l12Bag {W w : World} {G : GH} {H : List Itm} {v0 : Value} {x0 : (List (List Int))} {x1 : Int} {x2 : Int} (m : Mem W G w (H)) (h0 : RSl (RSl (RI .i64)) G v0 x0) {y : Bool} (hd : D.spec_l12Bag x0 x1 x2 = some y) :
  Calls Tryd.prog 54 #[v0, (.int .i64 x1), (.int .i64 x2)] w (Res W G H (fun _ Ho v => Ho = [] ∧ v = (.bool y))) := by
 refine calls_b (args := [v0, (.int .i64 x1), (.int .i64 x2)]) (N := 28) [.tmp 6] Tryd.func54 rfl rfl (Nat.le_of_ble_eq_true rfl) rfl (fun a f => ?_)
 unfold D.spec_l12Bag at hd
 refine k_seq ?_
 refine k_region ?_
 refine l_op f rfl rfl rfl (r_assign (f.eval rfl)) (fun a f => ?_)
 refine l_nil ?_
 refine k_seq ?_
 refine k_seq ?_
 refine k_region ?_
 refine l_op f rfl rfl rfl (r_assign (f.eval rfl)) (fun a f => ?_)
 refine l_nil ?_
 obtain ⟨q_121, hl_122, hd⟩ := bind_some hd
 refine k_cut (fun a w => ∃ q_121' : Unit, q_121 = .inl q_121' ∧ ∃ (G_189 : GH), GLe G G_189 ∧ Fr a 28 [] ∧ Mem W G_189 w (H)) ?_ ?_
 ·refine k_block ?_
  refine k_loop (fun s_125 a w => ∃ x_128 : Int, x_128 = s_125 ∧ ∃ (G_127 : GH), GLe G G_127 ∧ Fr a 28 [(0, v0), (1, (.int .i64 x1)), (2, (.int .i64 x2)), (7, (.int .i64 x_128))] ∧ Mem W G_127 w (H)) hl_122 ⟨_, rfl, _, (GLe.refl _), f.weak ⟨rfl, rfl, rfl, rfl, trivial⟩, m⟩ ?_
  clear hl_122 f m
  rintro s_125 o_126 hs_123 hq_124 a w ⟨x_128, rfl, G_127, hl_129, f, m⟩
  have h0 := RSl.mono (RSl.mono (RI.mono _)) _ _ _ _ hl_129 h0
  refine k_seq ?_
  refine k_seq ?_
  refine k_region ?_
  refine l_op f rfl rfl rfl (r_move (f.eval rfl)) (fun a f => ?_)
  refine l_op f rfl rfl rfl (r_move (f.eval rfl)) (fun a f => ?_)
  refine l_len Tryd.underlying27 f rfl rfl h0 (fun a f => ?_)
  refine l_op f rfl rfl rfl (r_int (f.eval rfl) (f.eval rfl) b_lss) (fun a f => ?_)
  refine l_nil ?_
  rcases cond_some hs_123 with ⟨hc_191, hs_123⟩ | ⟨hc_191, hs_123⟩
  ·refine k_true f rfl hc_191 ?_
   refine k_skip ?_
   refine k_seq ?_
   refine k_block ?_
   refine k_seq ?_
   refine k_region ?_
   refine l_op f rfl rfl rfl (r_move (f.eval rfl)) (fun a f => ?_)
   refine l_op f rfl rfl rfl (r_move (f.eval rfl)) (fun a f => ?_)
   obtain ⟨e_192, he_193, hs_123⟩ := bind_some hs_123
   refine l_at T27 f rfl rfl rfl h0 he_193 (fun p_194 c_195 a g_196 h_197 f => ?_)
   refine l_loadAt m Pl31 f rfl rfl g_196 (fun a f => ?_)
   refine l_op f rfl rfl rfl (r_move (f.eval rfl)) (fun a f => ?_)
   obtain ⟨y_198, hy_199, hs_123⟩ := bind_some hs_123
   refine l_res f rfl rfl Tryd.call68 (Wk.spec_l1Has m h_197 hy_199) (fun v_203 G_200 Ho_204 w hl_201 m hQ_202 a f => ?_)
   obtain ⟨rfl, rfl⟩ := hQ_202
   have h0 := RSl.mono (RSl.mono (RI.mono _)) _ _ _ _ hl_201 h0
   have g_196 := At.mono hl_201 g_196
   have h_197 := RSl.mono (RI.mono _) _ _ _ _ hl_201 h_197
   have m : Mem W G_200 w (H) := m
   refine l_op f rfl rfl rfl (r_move (f.eval rfl)) (fun a f => ?_)
   obtain ⟨b_234, hj_235, hs_123⟩ := bind_some hs_123
   refine l_cut 7 (fun a w => ∃ G_232, GLe G_200 G_232 ∧ Mem W G_232 w (H) ∧ Fr a 28 [(0, v0), (1, (.int .i64 x1)), (2, (.int .i64 x2)), (7, (.int .i64 x_128)), (11, (.bool (decide (x_128 < (x0.length : Int))))), (14, v0), (15, (.int .i64 x_128)), (16, p_194), (17, c_195), (18, (.int .i64 x1)), (19, (.bool y_198)), (20, (.bool y_198)), (27, (.bool b_234))]) ?_ ?_
   ·rcases cond_some hj_235 with ⟨hc_205, hj_235⟩ | ⟨hc_205, hj_235⟩
    ·refine l_run f rfl rfl hc_205 ?_
     refine l_op f rfl rfl rfl (r_move (f.eval rfl)) (fun a f => ?_)
     refine l_run f rfl rfl hc_205 ?_
     refine l_op f rfl rfl rfl (r_move (f.eval rfl)) (fun a f => ?_)
     refine l_run f rfl rfl hc_205 ?_
     obtain ⟨e_236, he_237, hj_235⟩ := bind_some hj_235
     refine l_at T27 f rfl rfl rfl h0 he_237 (fun p_238 c_239 a g_240 h_241 f => ?_)
     refine l_run f rfl rfl hc_205 ?_
     refine l_loadAt m Pl31 f rfl rfl g_240 (fun a f => ?_)
     refine l_run f rfl rfl hc_205 ?_
     refine l_op f rfl rfl rfl (r_move (f.eval rfl)) (fun a f => ?_)
     refine l_run f rfl rfl hc_205 ?_
     obtain ⟨y_242, hy_243, hj_235⟩ := bind_some hj_235
     refine l_res f rfl rfl Tryd.call68 (Wk.spec_l1Has m h_241 hy_243) (fun v_247 G_244 Ho_248 w hl_245 m hQ_246 a f => ?_)
     obtain ⟨rfl, rfl⟩ := hQ_246
     have h0 := RSl.mono (RSl.mono (RI.mono _)) _ _ _ _ hl_245 h0
     have g_196 := At.mono hl_245 g_196
     have h_197 := RSl.mono (RI.mono _) _ _ _ _ hl_245 h_197
     have g_240 := At.mono hl_245 g_240
     have h_241 := RSl.mono (RI.mono _) _ _ _ _ hl_245 h_241
     have m : Mem W G_244 w (H) := m
     refine l_op f rfl rfl rfl (r_pickT (f.eval rfl) hc_205 (f.eval rfl)) (fun a f => ?_)
     obtain rfl := Option.some.inj hj_235
     exact ⟨_, hl_245, m, f.weak ⟨rfl, rfl, rfl, rfl, rfl, rfl, rfl, rfl, rfl, rfl, rfl, rfl, rfl, trivial⟩⟩
    ·refine l_not' f rfl rfl rfl hc_205 (fun a f => ?_)
     refine l_not' f rfl rfl rfl hc_205 (fun a f => ?_)
     refine l_not' f rfl rfl rfl hc_205 (fun a f => ?_)
     refine l_not' f rfl rfl rfl hc_205 (fun a f => ?_)
     refine l_not' f rfl rfl rfl hc_205 (fun a f => ?_)
     refine l_not' f rfl rfl rfl hc_205 (fun a f => ?_)
     refine l_op f rfl rfl rfl (r_pickF (f.eval rfl) hc_205 (f.eval rfl)) (fun a f => ?_)
     obtain rfl := Option.some.inj hj_235
     exact ⟨_, (GLe.refl _), m, f.weak ⟨rfl, rfl, rfl, rfl, rfl, rfl, rfl, rfl, rfl, rfl, rfl, rfl, rfl, trivial⟩⟩
   ·rintro a w ⟨G_232, hl_233, m, f⟩
    have h0 := RSl.mono (RSl.mono (RI.mono _)) _ _ _ _ hl_233 h0
    have g_196 := At.mono hl_233 g_196
    have h_197 := RSl.mono (RI.mono _) _ _ _ _ hl_233 h_197
    refine l_nil ?_
    rcases cond_some hs_123 with ⟨hc_249, hs_123⟩ | ⟨hc_249, hs_123⟩
    ·refine k_true f rfl hc_249 ?_
     refine k_seq ?_
     refine k_region ?_
     refine l_op f rfl rfl rfl (r_assign (f.eval rfl)) (fun a f => ?_)
     refine l_nil ?_
     refine k_ret ?_
     obtain rfl := Option.some.inj hs_123
     obtain rfl := hq_124 _ rfl
     obtain rfl := Option.some.inj hd
     exact ⟨[(.bool true)], ⟨f.get _ _ rfl, trivial⟩, f.defers, _, [], (GLe.trans hl_129 (GLe.trans hl_201 hl_233)), m, rfl, rfl⟩
    ·refine k_false f rfl hc_249 ?_
     refine k_skip ?_
     refine k_region ?_
     refine l_op f rfl rfl rfl (r_move (f.eval rfl)) (fun a f => ?_)
     refine l_op f rfl rfl rfl (r_int (f.eval rfl) (f.eval rfl) b_add) (fun a f => ?_)
     refine l_op f rfl rfl rfl (r_assign (f.eval rfl)) (fun a f => ?_)
     refine l_nil ?_
     obtain rfl := Option.some.inj hs_123
     exact ⟨_, rfl, _, rfl, _, (GLe.trans hl_129 (GLe.trans hl_201 hl_233)), f.weak ⟨rfl, rfl, rfl, rfl, trivial⟩, m⟩
  ·refine k_false f rfl hc_191 ?_
   refine k_exit rfl ?_
   obtain rfl := Option.some.inj hs_123
   obtain rfl := hq_124 _ rfl
   exact ⟨_, rfl, _, hl_129, f.weak trivial, m⟩
 ·rintro a w ⟨_, rfl, G_189, hl_190, f, m⟩
  refine k_seq ?_
  refine k_region ?_
  refine l_op f rfl rfl rfl (r_assign (f.eval rfl)) (fun a f => ?_)
  refine l_nil ?_
  refine k_ret ?_
  obtain rfl := Option.some.inj hd
  exact ⟨[(.bool false)], ⟨f.get _ _ rfl, trivial⟩, f.defers, _, [], hl_190, m, rfl, rfl⟩

theorem Wk.spec_PathBagsOk {W w : World} {G : GH} {H : List Itm} {v0_0 : Value} {v1 : Value} {x0_0 : (List (List Int))} {x1 : (List (List Int))} (m : Mem W G w (H)) (h0_0 : RSl (RSl (RI .i64)) G v0_0 x0_0) (h1 : RSl (RSl (RI .i64)) G v1 x1) {y : Bool} (hd : D.spec_PathBagsOk x0_0 x1 = some y) :
  Calls Tryd.prog 12 #[(.agg #[v0_0]), v1] w (Res W G H (fun _ Ho v => Ho = [] ∧ v = (.bool y))) := by
 refine calls_b (args := [(.agg #[v0_0]), v1]) (N := 70) [.tmp 4] Tryd.func12 rfl rfl (Nat.le_of_ble_eq_true rfl) rfl (fun a f => ?_)
 unfold D.spec_PathBagsOk at hd
 refine k_seq ?_
 refine k_region ?_
 refine l_box (cs := [v0_0]) m f rfl rfl rfl (fun b_2 w a m f => ?_)
 refine l_op f rfl rfl rfl (r_assign (f.eval rfl)) (fun a f => ?_)
 refine l_nil ?_
 refine k_seq ?_
 refine k_seq ?_
 refine k_region ?_
 refine l_boxAgg 0 0 (ds := [v0_0]) m Ag29 f rfl rfl rfl rfl rfl (fun a f => ?_)
 obtain ⟨y_3, hy_4, hd⟩ := bind_some hd
 refine l_res f rfl rfl Tryd.call51 (Wk.spec_GraphOk m h0_0 hy_4) (fun v_8 G_5 Ho_9 w hl_6 m hQ_7 a f => ?_)
 obtain ⟨rfl, rfl⟩ := hQ_7
 have h0_0 := RSl.mono (RSl.mono (RI.mono _)) _ _ _ _ hl_6 h0_0
 have h1 := RSl.mono (RSl.mono (RI.mono _)) _ _ _ _ hl_6 h1
 have m : Mem W G_5 w (Itm.box b_2 29 [v0_0] :: H) := m
 refine l_op f rfl rfl rfl (r_not (f.eval rfl)) (fun a f => ?_)
 refine l_op f rfl rfl rfl (r_move (f.eval rfl)) (fun a f => ?_)
 refine l_cut 4 (fun a w => ∃ G_11, GLe G_5 G_11 ∧ Mem W G_11 w (Itm.box b_2 29 [v0_0] :: H) ∧ Fr a 70 [(0, (.agg #[v0_0])), (1, v1), (2, (.pointer (some ⟨b_2, 0, none⟩))), (8, (.agg #[v0_0])), (9, (.bool y_3)), (10, (.bool (!y_3))), (11, (.bool (!y_3))), (15, (.bool ((!y_3) || (decide ((16 : Int) < (x1.length : Int))))))]) ?_ ?_
 ·rcases Bool.eq_false_or_eq_true (!y_3) with hc_10 | hc_10
  ·refine l_not' f rfl rfl rfl hc_10 (fun a f => ?_)
   refine l_not' f rfl rfl rfl hc_10 (fun a f => ?_)
   refine l_not' f rfl rfl rfl hc_10 (fun a f => ?_)
   refine l_op f rfl rfl rfl (r_pickT (f.eval rfl) hc_10 (f.eval rfl)) (fun a f => ?_)
   exact ⟨_, (GLe.refl _), m, f.weak ⟨rfl, rfl, rfl, rfl, rfl, rfl, rfl, by rw [hc_10]; rfl, trivial⟩⟩
  ·refine l_run f rfl rfl hc_10 ?_
   refine l_op f rfl rfl rfl (r_move (f.eval rfl)) (fun a f => ?_)
   refine l_run f rfl rfl hc_10 ?_
   refine l_len Tryd.underlying27 f rfl rfl h1 (fun a f => ?_)
   refine l_run f rfl rfl hc_10 ?_
   refine l_op f rfl rfl rfl (r_int (f.eval rfl) (f.eval rfl) b_gtr) (fun a f => ?_)
   refine l_op f rfl rfl rfl (r_pickF (f.eval rfl) hc_10 (f.eval rfl)) (fun a f => ?_)
   exact ⟨_, (GLe.refl _), m, f.weak ⟨rfl, rfl, rfl, rfl, rfl, rfl, rfl, by rw [hc_10]; rfl, trivial⟩⟩
 ·rintro a w ⟨G_11, hl_12, m, f⟩
  have h0_0 := RSl.mono (RSl.mono (RI.mono _)) _ _ _ _ hl_12 h0_0
  have h1 := RSl.mono (RSl.mono (RI.mono _)) _ _ _ _ hl_12 h1
  refine l_nil ?_
  rcases cond_some hd with ⟨hc_13, hd⟩ | ⟨hc_13, hd⟩
  ·refine k_true f rfl hc_13 ?_
   refine k_seq ?_
   refine k_region ?_
   refine l_op f rfl rfl rfl (r_assign (f.eval rfl)) (fun a f => ?_)
   refine l_nil ?_
   refine k_ret ?_
   have m : Mem W G_11 w H := Mem.drop (H' := [Itm.box b_2 29 [v0_0]]) m
   obtain rfl := Option.some.inj hd
   exact ⟨[(.bool false)], ⟨f.get _ _ rfl, trivial⟩, f.defers, _, [], (GLe.trans hl_6 hl_12), m, rfl, rfl⟩
  ·refine k_false f rfl hc_13 ?_
   refine k_skip ?_
   refine k_seq ?_
   refine k_seq ?_
   refine k_region ?_
   refine l_op f rfl rfl rfl (r_assign (f.eval rfl)) (fun a f => ?_)
   refine l_nil ?_
   obtain ⟨q_74, hl_75, hd⟩ := bind_some hd
   refine k_cut (fun a w => ∃ q_74' : Unit, q_74 = .inl q_74' ∧ ∃ (G_112 : GH), GLe G_11 G_112 ∧ Fr a 70 [(1, v1), (2, (.pointer (some ⟨b_2, 0, none⟩)))] ∧ Mem W G_112 w (Itm.box b_2 29 [v0_0] :: H)) ?_ ?_
   ·refine k_block ?_
    refine k_loop (fun s_78 a w => ∃ x_81 : Int, x_81 = s_78 ∧ ∃ (G_80 : GH), GLe G_11 G_80 ∧ Fr a 70 [(1, v1), (2, (.pointer (some ⟨b_2, 0, none⟩))), (5, (.int .i64 x_81))] ∧ Mem W G_80 w (Itm.box b_2 29 [v0_0] :: H)) hl_75 ⟨_, rfl, _, (GLe.refl _), f.weak ⟨rfl, rfl, rfl, trivial⟩, m⟩ ?_
    clear hl_75 f m
    rintro s_78 o_79 hs_76 hq_77 a w ⟨x_81, rfl, G_80, hl_82, f, m⟩
    have h1 := RSl.mono (RSl.mono (RI.mono _)) _ _ _ _ hl_82 h1
    have h0_0 := RSl.mono (RSl.mono (RI.mono _)) _ _ _ _ hl_82 h0_0
    refine k_seq ?_
    refine k_seq ?_
    refine k_region ?_
    refine l_op f rfl rfl rfl (r_move (f.eval rfl)) (fun a f => ?_)
    refine l_op f rfl rfl rfl (r_move (f.eval rfl)) (fun a f => ?_)
    refine l_len Tryd.underlying27 f rfl rfl h1 (fun a f => ?_)
    refine l_op f rfl rfl rfl (r_int (f.eval rfl) (f.eval rfl) b_lss) (fun a f => ?_)
    refine l_nil ?_
    rcases cond_some hs_76 with ⟨hc_114, hs_76⟩ | ⟨hc_114, hs_76⟩
    ·refine k_true f rfl hc_114 ?_
     refine k_skip ?_
     refine k_seq ?_
     refine k_block ?_
     refine k_seq ?_
     refine k_draw 15 Follows (by kernel_rfl) m ?_
     refine q_boxAgg (i := 0) (listed' := #[true, false, false, false, false, false, false, false, false, false, false, false, false, false, false]) (ds := [v0_0]) 15 0 Ag29 rfl rfl rfl rfl (by kernel_rfl) rfl f rfl rfl rfl (fun a f => ?_)
     refine q_op (i := 1) (listed' := #[true, true, false, false, false, false, false, false, false, false, false, false, false, false, false]) 15 rfl (by kernel_rfl) rfl f rfl rfl rfl (fun _ _ _ _ _ => r_move (f.eval rfl)) (fun a f => ?_)
     refine q_op (i := 2) (listed' := #[true, true, true, false, false, false, false, false, false, false, false, false, false, false, false]) 15 rfl (by kernel_rfl) rfl f rfl rfl rfl (fun _ _ _ _ _ => r_move (f.eval rfl)) (fun a f => ?_)
     obtain ⟨e_115, he_116, hs_76⟩ := bind_some hs_76
     refine q_at (i := 3) (listed' := #[true, true, true, true, false, false, false, false, false, false, false, false, false, false, false]) 15 T27 h1 he_116 rfl (by kernel_rfl) rfl f rfl rfl rfl rfl (fun p_117 c_118 a g_119 h_120 f => ?_)
     refine q_loadAt (i := 4) (listed' := #[true, true, true, true, true, false, false, false, false, false, false, false, false, false, false]) 15 Pl31 g_119 rfl (by kernel_rfl) rfl f rfl rfl rfl (fun a f => ?_)
     obtain ⟨y_121, hy_122, hs_76⟩ := bind_some hs_76
     refine q_call (i := 5) (listed' := #[true, true, true, true, true, true, false, false, false, false, false, false, false, false, false]) 15 rfl (by kernel_rfl) rfl f rfl rfl rfl Tryd.call52 (fun _ _ w hG_123 m => Wk.spec_SetOk m (RSl.mono (RSl.mono (RI.mono _)) _ _ _ _ hG_123 h0_0) (RSl.mono (RI.mono _) _ _ _ _ hG_123 h_120) hy_122) (fun a f => ?_)
     refine q_op (i := 6) (listed' := #[true, true, true, true, true, true, true, false, false, false, false, false, false, false, false]) 15 rfl (by kernel_rfl) rfl f rfl rfl rfl (fun _ _ _ _ _ => r_not (f.eval rfl)) (fun a f => ?_)
     refine q_op (i := 7) (listed' := #[true, true, true, true, true, true, true, true, false, false, false, false, false, false, false]) 15 rfl (by kernel_rfl) rfl f rfl rfl rfl (fun _ _ _ _ _ => r_move (f.eval rfl)) (fun a f => ?_)
     obtain ⟨b_132, hj_133, hs_76⟩ := bind_some hs_76
     refine q_cut (fuel' := 0) (listed' := #[true, true, true, true, true, true, true, true, true, true, true, true, true, true, true]) (fun a => Fr a 70 [(1, v1), (2, (.pointer (some ⟨b_2, 0, none⟩))), (5, (.int .i64 x_81)), (19, (.bool (decide (x_81 < (x1.length : Int))))), (22, (.agg #[v0_0])), (23, v1), (24, (.int .i64 x_81)), (25, p_117), (26, c_118), (27, (.bool y_121)), (28, (.bool (!y_121))), (29, (.bool (!y_121))), (36, (.bool b_132))]) ?_ ?_
     ·intro a f
      refine q_end (fun G_140 w hl_141 m => ?_)
      have h1 := RSl.mono (RSl.mono (RI.mono _)) _ _ _ _ hl_141 h1
      have h0_0 := RSl.mono (RSl.mono (RI.mono _)) _ _ _ _ hl_141 h0_0
      have g_119 := At.mono hl_141 g_119
      have h_120 := RSl.mono (RI.mono _) _ _ _ _ hl_141 h_120
      have m : Mem W G_140 w (Itm.box b_2 29 [v0_0] :: H) := m
      refine l_nil ?_
      rcases cond_some hs_76 with ⟨hc_142, hs_76⟩ | ⟨hc_142, hs_76⟩
      ·refine k_true f rfl hc_142 ?_
       refine k_seq ?_
       refine k_region ?_
       refine l_op f rfl rfl rfl (r_assign (f.eval rfl)) (fun a f => ?_)
       refine l_nil ?_
       refine k_ret ?_
       have m : Mem W G_140 w H := Mem.drop (H' := [Itm.box b_2 29 [v0_0]]) m
       obtain rfl := Option.some.inj hs_76
       obtain rfl := hq_77 _ rfl
       obtain rfl := Option.some.inj hd
       exact ⟨[(.bool false)], ⟨f.get _ _ rfl, trivial⟩, f.defers, _, [], (GLe.trans hl_6 (GLe.trans hl_12 (GLe.trans hl_82 hl_141))), m, rfl, rfl⟩
      ·refine k_false f rfl hc_142 ?_
       refine k_skip ?_
       refine k_region ?_
       refine l_op f rfl rfl rfl (r_move (f.eval rfl)) (fun a f => ?_)
       refine l_op f rfl rfl rfl (r_int (f.eval rfl) (f.eval rfl) b_add) (fun a f => ?_)
       refine l_op f rfl rfl rfl (r_assign (f.eval rfl)) (fun a f => ?_)
       refine l_nil ?_
       obtain rfl := Option.some.inj hs_76
       exact ⟨_, rfl, _, rfl, _, (GLe.trans hl_82 hl_141), f.weak ⟨rfl, rfl, rfl, trivial⟩, m⟩
     ·intro K_131
      rcases cond_some hj_133 with ⟨hc_124, hj_133⟩ | ⟨hc_124, hj_133⟩
      ·refine q_not (i := 8) (listed' := #[true, true, true, true, true, true, true, true, true, false, false, false, false, false, false]) 15 rfl (by kernel_rfl) rfl f rfl rfl rfl hc_124 rfl rfl (fun a f => ?_)
       refine q_not (i := 9) (listed' := #[true, true, true, true, true, true, true, true, true, true, false, false, false, false, false]) 15 rfl (by kernel_rfl) rfl f rfl rfl rfl hc_124 rfl rfl (fun a f => ?_)
       refine q_not (i := 10) (listed' := #[true, true, true, true, true, true, true, true, true, true, true, false, false, false, false]) 15 rfl (by kernel_rfl) rfl f rfl rfl rfl hc_124 rfl rfl (fun a f => ?_)
       refine q_not (i := 11) (listed' := #[true, true, true, true, true, true, true, true, true, true, true, true, false, false, false]) 15 rfl (by kernel_rfl) rfl f rfl rfl rfl hc_124 rfl rfl (fun a f => ?_)
       refine q_not (i := 12) (listed' := #[true, true, true, true, true, true, true, true, true, true, true, true, true, false, false]) 15 rfl (by kernel_rfl) rfl f rfl rfl rfl hc_124 rfl rfl (fun a f => ?_)
       refine q_not (i := 13) (listed' := #[true, true, true, true, true, true, true, true, true, true, true, true, true, true, false]) 15 rfl (by kernel_rfl) rfl f rfl rfl rfl hc_124 rfl rfl (fun a f => ?_)
       refine q_op (i := 14) (listed' := #[true, true, true, true, true, true, true, true, true, true, true, true, true, true, true]) 15 rfl (by kernel_rfl) rfl f rfl rfl rfl (fun _ _ _ _ _ => r_pickT (f.eval rfl) hc_124 (f.eval rfl)) (fun a f => ?_)
       obtain rfl := Option.some.inj hj_133
       exact K_131 _ (f.weak ⟨rfl, rfl, rfl, rfl, rfl, rfl, rfl, rfl, rfl, rfl, rfl, rfl, rfl, trivial⟩)
      ·refine q_op (i := 8) (listed' := #[true, true, true, true, true, true, true, true, true, false, false, false, false, false, false]) 15 rfl (by kernel_rfl) rfl f (wanted_of f rfl rfl rfl hc_124) rfl rfl (fun _ _ _ _ _ => r_move (f.eval rfl)) (fun a f => ?_)
       refine q_op (i := 9) (listed' := #[true, true, true, true, true, true, true, true, true, true, false, false, false, false, false]) 15 rfl (by kernel_rfl) rfl f (wanted_of f rfl rfl rfl hc_124) rfl rfl (fun _ _ _ _ _ => r_move (f.eval rfl)) (fun a f => ?_)
       obtain ⟨e_134, he_135, hj_133⟩ := bind_some hj_133
       refine q_at (i := 10) (listed' := #[true, true, true, true, true, true, true, true, true, true, true, false, false, false, false]) 15 T27 h1 he_135 rfl (by kernel_rfl) rfl f (wanted_of f rfl rfl rfl hc_124) rfl rfl rfl (fun p_136 c_137 a g_138 h_139 f => ?_)
       refine q_loadAt (i := 11) (listed' := #[true, true, true, true, true, true, true, true, true, true, true, true, false, false, false]) 15 Pl31 g_138 rfl (by kernel_rfl) rfl f (wanted_of f rfl rfl rfl hc_124) rfl rfl (fun a f => ?_)
       refine q_len (i := 12) (listed' := #[true, true, true, true, true, true, true, true, true, true, true, true, true, false, false]) 15 Tryd.underlying31 h_139 rfl (by kernel_rfl) rfl f (wanted_of f rfl rfl rfl hc_124) rfl rfl (fun a f => ?_)
       refine q_op (i := 13) (listed' := #[true, true, true, true, true, true, true, true, true, true, true, true, true, true, false]) 15 rfl (by kernel_rfl) rfl f (wanted_of f rfl rfl rfl hc_124) rfl rfl (fun _ _ _ _ _ => r_int (f.eval rfl) (f.eval rfl) b_eql) (fun a f => ?_)
       refine q_op (i := 14) (listed' := #[true, true, true, true, true, true, true, true, true, true, true, true, true, true, true]) 15 rfl (by kernel_rfl) rfl f rfl rfl rfl (fun _ _ _ _ _ => r_pickF (f.eval rfl) hc_124 (f.eval rfl)) (fun a f => ?_)
       obtain rfl := Option.some.inj hj_133
       exact K_131 _ (f.weak ⟨rfl, rfl, rfl, rfl, rfl, rfl, rfl, rfl, rfl, rfl, rfl, rfl, rfl, trivial⟩)
    ·refine k_false f rfl hc_114 ?_
     refine k_exit rfl ?_
     obtain rfl := Option.some.inj hs_76
     obtain rfl := hq_77 _ rfl
     exact ⟨_, rfl, _, hl_82, f.weak ⟨rfl, rfl, trivial⟩, m⟩
   ·rintro a w ⟨_, rfl, G_112, hl_113, f, m⟩
    have h1 := RSl.mono (RSl.mono (RI.mono _)) _ _ _ _ hl_113 h1
    have h0_0 := RSl.mono (RSl.mono (RI.mono _)) _ _ _ _ hl_113 h0_0
    refine k_seq ?_
    refine k_seq ?_
    refine k_region ?_
    refine l_op f rfl rfl rfl (r_assign (f.eval rfl)) (fun a f => ?_)
    refine l_nil ?_
    obtain ⟨q_405, hl_406, hd⟩ := bind_some hd
    refine k_cut (fun a w => ∃ q_405' : Unit, q_405 = .inl q_405' ∧ ∃ (G_544 : GH), GLe G_112 G_544 ∧ Fr a 70 [] ∧ Mem W G_544 w (H)) ?_ ?_
    ·refine k_block ?_
     refine k_loop (fun s_409 a w => ∃ x_412 : Int, x_412 = s_409 ∧ ∃ (G_411 : GH), GLe G_112 G_411 ∧ Fr a 70 [(1, v1), (2, (.pointer (some ⟨b_2, 0, none⟩))), (6, (.int .i64 x_412))] ∧ Mem W G_411 w (Itm.box b_2 29 [v0_0] :: H)) hl_406 ⟨_, rfl, _, (GLe.refl _), f.weak ⟨rfl, rfl, rfl, trivial⟩, m⟩ ?_
     clear hl_406 f m
     rintro s_409 o_410 hs_407 hq_408 a w ⟨x_412, rfl, G_411, hl_413, f, m⟩
     have h1 := RSl.mono (RSl.mono (RI.mono _)) _ _ _ _ hl_413 h1
     have h0_0 := RSl.mono (RSl.mono (RI.mono _)) _ _ _ _ hl_413 h0_0
     refine k_seq ?_
     refine k_seq ?_
     refine k_region ?_
     refine l_op f rfl rfl rfl (r_move (f.eval rfl)) (fun a f => ?_)
     refine l_fieldAddr Tryd.underlying29 rfl Tryd.sizeOf27 (by decide) f rfl rfl (fun a f => ?_)
     refine l_boxCell 0 0 m Pl27 f rfl rfl rfl rfl (fun a f => ?_)
     refine l_len Tryd.underlying27 f rfl rfl h0_0 (fun a f => ?_)
     refine l_op f rfl rfl rfl (r_int (f.eval rfl) (f.eval rfl) b_lss) (fun a f => ?_)
     refine l_nil ?_
     rcases cond_some hs_407 with ⟨hc_546, hs_407⟩ | ⟨hc_546, hs_407⟩
     ·refine k_true f rfl hc_546 ?_
      refine k_skip ?_
      refine k_seq ?_
      refine k_block ?_
      refine k_seq ?_
      refine k_seq ?_
      refine k_region ?_
      refine l_op f rfl rfl rfl (r_move (f.eval rfl)) (fun a f => ?_)
      refine l_op f rfl rfl rfl (r_move (f.eval rfl)) (fun a f => ?_)
      obtain ⟨y_547, hy_548, hs_407⟩ := bind_some hs_407
      refine l_res f rfl rfl Tryd.call53 (Wk.spec_l12Whole m h1 hy_548) (fun v_552 G_549 Ho_553 w hl_550 m hQ_551 a f => ?_)
      obtain ⟨rfl, rfl⟩ := hQ_551
      have h1 := RSl.mono (RSl.mono (RI.mono _)) _ _ _ _ hl_550 h1
      have h0_0 := RSl.mono (RSl.mono (RI.mono _)) _ _ _ _ hl_550 h0_0
      have m : Mem W G_549 w (Itm.box b_2 29 [v0_0] :: H) := m
      refine l_op f rfl rfl rfl (r_not (f.eval rfl)) (fun a f => ?_)
      refine l_nil ?_
      rcases cond_some hs_407 with ⟨hc_554, hs_407⟩ | ⟨hc_554, hs_407⟩
      ·refine k_true f rfl hc_554 ?_
       refine k_seq ?_
       refine k_region ?_
       refine l_op f rfl rfl rfl (r_assign (f.eval rfl)) (fun a f => ?_)
       refine l_nil ?_
       refine k_ret ?_
       have m : Mem W G_549 w H := Mem.drop (H' := [Itm.box b_2 29 [v0_0]]) m
       obtain rfl := Option.some.inj hs_407
       obtain rfl := hq_408 _ rfl
       obtain rfl := Option.some.inj hd
       exact ⟨[(.bool false)], ⟨f.get _ _ rfl, trivial⟩, f.defers, _, [], (GLe.trans hl_6 (GLe.trans hl_12 (GLe.trans hl_113 (GLe.trans hl_413 hl_550)))), m, rfl, rfl⟩
      ·refine k_false f rfl hc_554 ?_
       refine k_skip ?_
       refine k_seq ?_
       refine k_region ?_
       refine l_op f rfl rfl rfl (r_assign (f.eval rfl)) (fun a f => ?_)
       refine l_nil ?_
       obtain ⟨q_611, hl_612, hs_407⟩ := bind_some hs_407
       refine k_cut (fun a w => ∃ q_611' : Unit, q_611 = .inl q_611' ∧ ∃ (G_647 : GH), GLe G_549 G_647 ∧ Fr a 70 [(1, v1), (2, (.pointer (some ⟨b_2, 0, none⟩))), (6, (.int .i64 x_412))] ∧ Mem W G_647 w (Itm.box b_2 29 [v0_0] :: H)) ?_ ?_
       ·refine k_block ?_
        refine k_loop (fun s_615 a w => ∃ x_618 : Int, x_618 = s_615 ∧ ∃ (G_617 : GH), GLe G_549 G_617 ∧ Fr a 70 [(1, v1), (2, (.pointer (some ⟨b_2, 0, none⟩))), (6, (.int .i64 x_412)), (7, (.int .i64 x_618))] ∧ Mem W G_617 w (Itm.box b_2 29 [v0_0] :: H)) hl_612 ⟨_, rfl, _, (GLe.refl _), f.weak ⟨rfl, rfl, rfl, rfl, trivial⟩, m⟩ ?_
        clear hl_612 f m
        rintro s_615 o_616 hs_613 hq_614 a w ⟨x_618, rfl, G_617, hl_619, f, m⟩
        have h1 := RSl.mono (RSl.mono (RI.mono _)) _ _ _ _ hl_619 h1
        have h0_0 := RSl.mono (RSl.mono (RI.mono _)) _ _ _ _ hl_619 h0_0
        refine k_seq ?_
        refine k_seq ?_
        refine k_region ?_
        refine l_op f rfl rfl rfl (r_move (f.eval rfl)) (fun a f => ?_)
        refine l_fieldAddr Tryd.underlying29 rfl Tryd.sizeOf27 (by decide) f rfl rfl (fun a f => ?_)
        refine l_boxCell 0 0 m Pl27 f rfl rfl rfl rfl (fun a f => ?_)
        refine l_op f rfl rfl rfl (r_move (f.eval rfl)) (fun a f => ?_)
        obtain ⟨e_649, he_650, hs_613⟩ := bind_some hs_613
        refine l_at T27 f rfl rfl rfl h0_0 he_650 (fun p_651 c_652 a g_653 h_654 f => ?_)
        refine l_loadAt m Pl31 f rfl rfl g_653 (fun a f => ?_)
        refine l_len Tryd.underlying31 f rfl rfl h_654 (fun a f => ?_)
        refine l_op f rfl rfl rfl (r_int (f.eval rfl) (f.eval rfl) b_lss) (fun a f => ?_)
        refine l_nil ?_
        rcases cond_some hs_613 with ⟨hc_655, hs_613⟩ | ⟨hc_655, hs_613⟩
        ·refine k_true f rfl hc_655 ?_
         refine k_skip ?_
         refine k_seq ?_
         refine k_block ?_
         refine k_seq ?_
         refine k_region ?_
         refine l_op f rfl rfl rfl (r_move (f.eval rfl)) (fun a f => ?_)
         refine l_op f rfl rfl rfl (r_move (f.eval rfl)) (fun a f => ?_)
         refine l_fieldAddr Tryd.underlying29 rfl Tryd.sizeOf27 (by decide) f rfl rfl (fun a f => ?_)
         refine l_boxCell 0 0 m Pl27 f rfl rfl rfl rfl (fun a f => ?_)
         refine l_op f rfl rfl rfl (r_move (f.eval rfl)) (fun a f => ?_)
         obtain ⟨e_656, he_657, hs_613⟩ := bind_some hs_613
         refine l_at T27 f rfl rfl rfl h0_0 he_657 (fun p_658 c_659 a g_660 h_661 f => ?_)
         refine l_loadAt m Pl31 f rfl rfl g_660 (fun a f => ?_)
         refine l_op f rfl rfl rfl (r_move (f.eval rfl)) (fun a f => ?_)
         obtain ⟨e_662, he_663, hs_613⟩ := bind_some hs_613
         refine l_at T31 f rfl rfl rfl h_661 he_663 (fun p_664 c_665 a g_666 h_667 f => ?_)
         subst h_667
         refine l_loadAt m Pl2 f rfl rfl g_666 (fun a f => ?_)
         obtain ⟨y_668, hy_669, hs_613⟩ := bind_some hs_613
         refine l_res f rfl rfl Tryd.call54 (Wk.spec_l12Bag m h1 hy_669) (fun v_673 G_670 Ho_674 w hl_671 m hQ_672 a f => ?_)
         obtain ⟨rfl, rfl⟩ := hQ_672
         have h1 := RSl.mono (RSl.mono (RI.mono _)) _ _ _ _ hl_671 h1
         have h0_0 := RSl.mono (RSl.mono (RI.mono _)) _ _ _ _ hl_671 h0_0
         have g_660 := At.mono hl_671 g_660
         have h_661 := RSl.mono (RI.mono _) _ _ _ _ hl_671 h_661
         have g_666 := At.mono hl_671 g_666
         have m : Mem W G_670 w (Itm.box b_2 29 [v0_0] :: H) := m
         refine l_op f rfl rfl rfl (r_not (f.eval rfl)) (fun a f => ?_)
         refine l_nil ?_
         rcases cond_some hs_613 with ⟨hc_675, hs_613⟩ | ⟨hc_675, hs_613⟩
         ·refine k_true f rfl hc_675 ?_
          refine k_seq ?_
          refine k_region ?_
          refine l_op f rfl rfl rfl (r_assign (f.eval rfl)) (fun a f => ?_)
          refine l_nil ?_
          refine k_ret ?_
          have m : Mem W G_670 w H := Mem.drop (H' := [Itm.box b_2 29 [v0_0]]) m
          obtain rfl := Option.some.inj hs_613
          obtain rfl := hq_614 _ rfl
          obtain rfl := Option.some.inj hs_407
          obtain rfl := hq_408 _ rfl
          obtain rfl := Option.some.inj hd
          exact ⟨[(.bool false)], ⟨f.get _ _ rfl, trivial⟩, f.defers, _, [], (GLe.trans hl_6 (GLe.trans hl_12 (GLe.trans hl_113 (GLe.trans hl_413 (GLe.trans hl_550 (GLe.trans hl_619 hl_671)))))), m, rfl, rfl⟩
         ·refine k_false f rfl hc_675 ?_
          refine k_skip ?_
          refine k_region ?_
          refine l_op f rfl rfl rfl (r_move (f.eval rfl)) (fun a f => ?_)
          refine l_op f rfl rfl rfl (r_int (f.eval rfl) (f.eval rfl) b_add) (fun a f => ?_)
          refine l_op f rfl rfl rfl (r_assign (f.eval rfl)) (fun a f => ?_)
          refine l_nil ?_
          obtain rfl := Option.some.inj hs_613
          exact ⟨_, rfl, _, rfl, _, (GLe.trans hl_619 hl_671), f.weak ⟨rfl, rfl, rfl, rfl, trivial⟩, m⟩
        ·refine k_false f rfl hc_655 ?_
         refine k_exit rfl ?_
         obtain rfl := Option.some.inj hs_613
         obtain rfl := hq_614 _ rfl
         exact ⟨_, rfl, _, hl_619, f.weak ⟨rfl, rfl, rfl, trivial⟩, m⟩
       ·rintro a w ⟨_, rfl, G_647, hl_648, f, m⟩
        have h1 := RSl.mono (RSl.mono (RI.mono _)) _ _ _ _ hl_648 h1
        have h0_0 := RSl.mono (RSl.mono (RI.mono _)) _ _ _ _ hl_648 h0_0
        refine k_region ?_
        refine l_op f rfl rfl rfl (r_move (f.eval rfl)) (fun a f => ?_)
        refine l_op f rfl rfl rfl (r_int (f.eval rfl) (f.eval rfl) b_add) (fun a f => ?_)
        refine l_op f rfl rfl rfl (r_assign (f.eval rfl)) (fun a f => ?_)
        refine l_nil ?_
        obtain rfl := Option.some.inj hs_407
        exact ⟨_, rfl, _, rfl, _, (GLe.trans hl_413 (GLe.trans hl_550 hl_648)), f.weak ⟨rfl, rfl, rfl, trivial⟩, m⟩
     ·refine k_false f rfl hc_546 ?_
      refine k_exit rfl ?_
      have m : Mem W G_411 w H := Mem.drop (H' := [Itm.box b_2 29 [v0_0]]) m
      obtain rfl := Option.some.inj hs_407
      obtain rfl := hq_408 _ rfl
      exact ⟨_, rfl, _, hl_413, f.weak trivial, m⟩
    ·rintro a w ⟨_, rfl, G_544, hl_545, f, m⟩
     refine k_seq ?_
     refine k_region ?_
     refine l_op f rfl rfl rfl (r_assign (f.eval rfl)) (fun a f => ?_)
     refine l_nil ?_
     refine k_ret ?_
     obtain rfl := Option.some.inj hd
     exact ⟨[(.bool true)], ⟨f.get _ _ rfl, trivial⟩, f.defers, _, [], (GLe.trans hl_6 (GLe.trans hl_12 (GLe.trans hl_113 hl_545))), m, rfl, rfl⟩

theorem Wk.impl_bagMasks {W w : World} {G : GH} {H : List Itm} {v0 : Value} {x0 : (List (List Int))} (m : Mem W G w (H)) (h0 : RSl (RSl (RI .i64)) G v0 x0) {y : ((List Int))} (hd : D.impl_bagMasks x0 = some y) :
  Calls Tryd.prog 57 #[v0] w (Res W G H (fun G' Ho v => ∃ r0 : Value, ∃ i0 : Itm, Ho = [i0] ∧ r0 = v ∧ Ow (RI .u32) 66 G' i0 r0 y)) := by
 refine calls_b (args := [v0]) (N := 20) [.tmp 2] Tryd.func57 rfl rfl (Nat.le_of_ble_eq_true rfl) rfl (fun a f => ?_)
 unfold D.impl_bagMasks at hd
 refine k_seq ?_
 refine k_region ?_
 refine l_op f rfl rfl rfl (r_assign (f.eval rfl)) (fun a f => ?_)
 refine l_nil ?_
 refine k_seq ?_
 refine k_region ?_
 refine l_slit (R := (RI .u32)) (xs := ([] : List Int)) (RI.one _) m T59 f rfl rfl rfl (by decide) (All2.nil _) (fun it_1 v_2 w a m o_3 f => ?_)
 refine l_op f rfl rfl rfl (r_assign (f.eval rfl)) (fun a f => ?_)
 refine l_nil ?_
 refine k_seq ?_
 refine k_seq ?_
 refine k_region ?_
 refine l_op f rfl rfl rfl (r_move (f.eval rfl)) (fun a f => ?_)
 refine l_len Tryd.underlying27 f rfl rfl h0 (fun a f => ?_)
 refine l_op f rfl rfl rfl (r_move (f.eval rfl)) (fun a f => ?_)
 refine l_nil ?_
 obtain ⟨q_60, hl_61, hd⟩ := bind_some hd
 refine k_cut (fun a w => ∃ l_99 : List Int, l_99 = q_60 ∧ ∃ (G_98 : GH) (v_100 : Value) (it_101 : Itm), GLe G G_98 ∧ Fr a 20 [(3, v_100)] ∧ Mem W G_98 w (it_101 :: H) ∧ Ow (RI .u32) 66 G_98 it_101 v_100 l_99) ?_ ?_
 ·refine k_block ?_
  refine k_loop (fun s_64 a w => ∃ l_67 : List Int, ∃ x_72 : Int, (l_67, x_72) = s_64 ∧ ∃ (G_66 : GH) (v_68 : Value) (it_69 : Itm), GLe G G_66 ∧ Fr a 20 [(3, v_68), (7, v0), (8, (.int .i64 (x0.length : Int))), (9, (.int .i64 x_72))] ∧ Mem W G_66 w (it_69 :: H) ∧ Ow (RI .u32) 66 G_66 it_69 v_68 l_67) hl_61 ⟨_, _, rfl, _, v_2, it_1, (GLe.refl _), f.weak ⟨rfl, rfl, rfl, rfl, trivial⟩, m, o_3⟩ ?_
  clear hl_61 f m
  rintro s_64 o_65 hs_62 hq_63 a w ⟨l_67, x_72, rfl, G_66, v_68, it_69, hl_73, f, m, o_70⟩
  have h0 := RSl.mono (RSl.mono (RI.mono _)) _ _ _ _ hl_73 h0
  refine k_seq ?_
  refine k_region ?_
  refine l_op f rfl rfl rfl (r_int (f.eval rfl) (f.eval rfl) b_lss) (fun a f => ?_)
  refine l_nil ?_
  refine k_seq ?_
  rcases cond_some hs_62 with ⟨hc_105, hs_62⟩ | ⟨hc_105, hs_62⟩
  ·refine k_true f rfl hc_105 ?_
   refine k_skip ?_
   refine k_seq ?_
   refine k_block ?_
   refine k_seq ?_
   refine k_region ?_
   obtain ⟨e_106, he_107, hs_62⟩ := bind_some hs_62
   refine l_at T27 f rfl rfl rfl h0 he_107 (fun p_108 c_109 a g_110 h_111 f => ?_)
   refine l_loadAt m Pl31 f rfl rfl g_110 (fun a f => ?_)
   refine l_op f rfl rfl rfl (r_assign (f.eval rfl)) (fun a f => ?_)
   refine l_nil ?_
   refine k_region ?_
   refine l_op f rfl rfl rfl (r_move (f.eval rfl)) (fun a f => ?_)
   refine l_op f rfl rfl rfl (r_move (f.eval rfl)) (fun a f => ?_)
   obtain ⟨y_112, hy_113, hs_62⟩ := bind_some hs_62
   refine l_res f rfl rfl Tryd.call101 (Wk.impl_maskOf m h_111 hy_113) (fun v_117 G_114 Ho_118 w hl_115 m hQ_116 a f => ?_)
   obtain ⟨rfl, rfl⟩ := hQ_116
   have h_111 := RSl.mono (RI.mono _) _ _ _ _ hl_115 h_111
   have h0 := RSl.mono (RSl.mono (RI.mono _)) _ _ _ _ hl_115 h0
   have o_70 := Ow.mono (RI.mono _) hl_115 o_70
   have m : Mem W G_114 w (it_69 :: H) := m
   refine l_slit (R := (RI .u32)) (xs := ([y_112] : List Int)) (RI.one _) m T59 f rfl rfl rfl (by decide) (All2.cons rfl (All2.nil _)) (fun it_119 v_120 w a m o_121 f => ?_)
   obtain ⟨l_123, hx_124, hs_62⟩ := bind_some hs_62
   refine l_append (RI.one _) 1 m o_70 rfl T59 rfl (by decide) f rfl rfl rfl (Ow.src (j := 0) o_121 m rfl) hx_124 (fun it_125 v_126 w a m o_127 f => ?_)
   have m : Mem W G_114 w (it_119 :: it_125 :: H) := m
   refine l_op f rfl rfl rfl (r_assign (f.eval rfl)) (fun a f => ?_)
   refine l_nil ?_
   refine k_region ?_
   refine l_op f rfl rfl rfl (r_int (f.eval rfl) (f.eval rfl) b_add) (fun a f => ?_)
   refine l_op f rfl rfl rfl (r_move (f.eval rfl)) (fun a f => ?_)
   refine l_nil ?_
   have m : Mem W G_114 w (it_125 :: it_119 :: H) := m.front 1 rfl
   have m : Mem W G_114 w (it_125 :: H) := m.eraseAt 1
   obtain rfl := Option.some.inj hs_62
   exact ⟨_, rfl, _, _, rfl, _, v_126, it_125, (GLe.trans hl_73 hl_115), f.weak ⟨rfl, rfl, rfl, rfl, trivial⟩, m, o_127⟩
  ·refine k_false f rfl hc_105 ?_
   refine k_exit rfl ?_
   obtain rfl := Option.some.inj hs_62
   obtain rfl := hq_63 _ rfl
   exact ⟨_, rfl, _, v_68, it_69, hl_73, f.weak ⟨rfl, trivial⟩, m, o_70⟩
 ·rintro a w ⟨l_99, rfl, G_98, v_100, it_101, hl_104, f, m, o_102⟩
  refine k_seq ?_
  refine k_region ?_
  refine l_op f rfl rfl rfl (r_move (f.eval rfl)) (fun a f => ?_)
  refine l_op f rfl rfl rfl (r_assign (f.eval rfl)) (fun a f => ?_)
  refine l_nil ?_
  refine k_ret ?_
  obtain rfl := Option.some.inj hd
  exact ⟨[v_100], ⟨f.get _ _ rfl, trivial⟩, f.defers, _, [it_101], hl_104, m, _, _, rfl, rfl, o_102⟩

theorem Wk.impl_vset_has {W w : World} {G : GH} {H : List Itm} {x0 : Int} {x1 : Int} (m : Mem W G w (H))  {y : Bool} (hd : D.impl_vset_has x0 x1 = some y) :
  Calls Tryd.prog 76 #[(.int .u32 x0), (.int .i64 x1)] w (Res W G H (fun _ Ho v => Ho = [] ∧ v = (.bool y))) := by
 refine calls_b (args := [(.int .u32 x0), (.int .i64 x1)]) (N := 10) [.tmp 4] Tryd.func76 rfl rfl (Nat.le_of_ble_eq_true rfl) rfl (fun a f => ?_)
 unfold D.impl_vset_has at hd
 refine k_seq ?_
 refine k_region ?_
 refine l_op f rfl rfl rfl (r_assign (f.eval rfl)) (fun a f => ?_)
 refine l_nil ?_
 refine k_seq ?_
 refine k_region ?_
 refine l_op f rfl rfl rfl (r_move (f.eval rfl)) (fun a f => ?_)
 refine l_op f rfl rfl rfl (r_move (f.eval rfl)) (fun a f => ?_)
 obtain ⟨hn_1, hd⟩ := cond_none hd
 refine l_op f rfl rfl rfl (r_shr (f.eval rfl) (f.eval rfl) hn_1) (fun a f => ?_)
 refine l_op f rfl rfl rfl (r_int (f.eval rfl) (f.eval rfl) b_and) (fun a f => ?_)
 refine l_op f rfl rfl rfl (r_int (f.eval rfl) (f.eval rfl) b_eql) (fun a f => ?_)
 refine l_op f rfl rfl rfl (r_assign (f.eval rfl)) (fun a f => ?_)
 refine l_nil ?_
 refine k_ret ?_
 obtain rfl := Option.some.inj hd
 exact ⟨[(.bool ((iand .u32 (ishr .u32 x0 x1) 1) == 1))], ⟨f.get _ _ rfl, trivial⟩, f.defers, _, [], (GLe.refl _), m, rfl, rfl⟩

theorem Wk.impl_coversEdges {W w : World} {G : GH} {H : List Itm} {v0 : Value} {v1 : Value} {x0 : (List Int)} {x1 : (List Int)} (m : Mem W G w (H)) (h0 : RSl (RI .u32) G v0 x0) (h1 : RSl (RI .u32) G v1 x1) {y : Bool} (hd : D.impl_coversEdges x0 x1 = some y) :
  Calls Tryd.prog 58 #[v0, v1] w (Res W G H (fun _ Ho v => Ho = [] ∧ v = (.bool y))) := by
 refine calls_b (args := [v0, v1]) (N := 41) [.tmp 4] Tryd.func58 rfl rfl (Nat.le_of_ble_eq_true rfl) rfl (fun a f => ?_)
 unfold D.impl_coversEdges at hd
 refine k_seq ?_
 refine k_region ?_
 refine l_op f rfl rfl rfl (r_assign (f.eval rfl)) (fun a f => ?_)
 refine l_nil ?_
 refine k_seq ?_
 refine k_seq ?_
 refine k_region ?_
 refine l_op f rfl rfl rfl (r_move (f.eval rfl)) (fun a f => ?_)
 refine l_len Tryd.underlying61 f rfl rfl h0 (fun a f => ?_)
 refine l_op f rfl rfl rfl (r_move (f.eval rfl)) (fun a f => ?_)
 refine l_nil ?_
 obtain ⟨q_191, hl_192, hd⟩ := bind_some hd
 refine k_cut (fun a w => ∃ q_191' : Unit, q_191 = .inl q_191' ∧ ∃ (G_294 : GH), GLe G G_294 ∧ Fr a 41 [] ∧ Mem W G_294 w (H)) ?_ ?_
 ·refine k_block ?_
  refine k_loop (fun s_195 a w => ∃ x_198 : Int, x_198 = s_195 ∧ ∃ (G_197 : GH), GLe G G_197 ∧ Fr a 41 [(1, v1), (10, v0), (11, (.int .i64 (x0.length : Int))), (12, (.int .i64 x_198))] ∧ Mem W G_197 w (H)) hl_192 ⟨_, rfl, _, (GLe.refl _), f.weak ⟨rfl, rfl, rfl, rfl, trivial⟩, m⟩ ?_
  clear hl_192 f m
  rintro s_195 o_196 hs_193 hq_194 a w ⟨x_198, rfl, G_197, hl_199, f, m⟩
  have h1 := RSl.mono (RI.mono _) _ _ _ _ hl_199 h1
  have h0 := RSl.mono (RI.mono _) _ _ _ _ hl_199 h0
  refine k_seq ?_
  refine k_region ?_
  refine l_op f rfl rfl rfl (r_int (f.eval rfl) (f.eval rfl) b_lss) (fun a f => ?_)
  refine l_nil ?_
  refine k_seq ?_
  rcases cond_some hs_193 with ⟨hc_296, hs_193⟩ | ⟨hc_296, hs_193⟩
  ·refine k_true f rfl hc_296 ?_
   refine k_skip ?_
   refine k_seq ?_
   refine k_block ?_
   refine k_seq ?_
   refine k_region ?_
   refine l_op f rfl rfl rfl (r_move (f.eval rfl)) (fun a f => ?_)
   obtain ⟨e_297, he_298, hs_193⟩ := bind_some hs_193
   refine l_at T61 f rfl rfl rfl h0 he_298 (fun p_299 c_300 a g_301 h_302 f => ?_)
   subst h_302
   refine l_loadAt m Pl66 f rfl rfl g_301 (fun a f => ?_)
   refine l_op f rfl rfl rfl (r_assign (f.eval rfl)) (fun a f => ?_)
   refine l_op f rfl rfl rfl (r_assign (f.eval rfl)) (fun a f => ?_)
   refine l_nil ?_
   refine k_seq ?_
   refine k_region ?_
   refine l_op f rfl rfl rfl (r_assign (f.eval rfl)) (fun a f => ?_)
   refine l_nil ?_
   refine k_seq ?_
   refine k_seq ?_
   refine k_region ?_
   refine l_op f rfl rfl rfl (r_move (f.eval rfl)) (fun a f => ?_)
   refine l_len Tryd.underlying59 f rfl rfl h1 (fun a f => ?_)
   refine l_op f rfl rfl rfl (r_move (f.eval rfl)) (fun a f => ?_)
   refine l_nil ?_
   obtain ⟨q_336, hl_337, hs_193⟩ := bind_some hs_193
   refine k_cut (fun a w => ∃ x_362 : Int, x_362 = q_336 ∧ ∃ (G_361 : GH), GLe G_197 G_361 ∧ Fr a 41 [(1, v1), (5, (.int .i64 x_198)), (6, (.int .u32 e_297)), (7, (.int .u32 x_362)), (10, v0), (11, (.int .i64 (x0.length : Int))), (12, (.int .i64 x_198))] ∧ Mem W G_361 w (H)) ?_ ?_
   ·refine k_block ?_
    refine k_loop (fun s_340 a w => ∃ x_343 : Int, ∃ x_344 : Int, (x_343, x_344) = s_340 ∧ ∃ (G_342 : GH), GLe G_197 G_342 ∧ Fr a 41 [(1, v1), (5, (.int .i64 x_198)), (6, (.int .u32 e_297)), (7, (.int .u32 x_343)), (10, v0), (11, (.int .i64 (x0.length : Int))), (12, (.int .i64 x_198)), (17, v1), (18, (.int .i64 (x1.length : Int))), (19, (.int .i64 x_344))] ∧ Mem W G_342 w (H)) hl_337 ⟨_, _, rfl, _, (GLe.refl _), f.weak ⟨rfl, rfl, rfl, rfl, rfl, rfl, rfl, rfl, rfl, rfl, trivial⟩, m⟩ ?_
    clear hl_337 f m
    rintro s_340 o_341 hs_338 hq_339 a w ⟨x_343, x_344, rfl, G_342, hl_345, f, m⟩
    have h1 := RSl.mono (RI.mono _) _ _ _ _ hl_345 h1
    have h0 := RSl.mono (RI.mono _) _ _ _ _ hl_345 h0
    refine k_seq ?_
    refine k_region ?_
    refine l_op f rfl rfl rfl (r_int (f.eval rfl) (f.eval rfl) b_lss) (fun a f => ?_)
    refine l_nil ?_
    refine k_seq ?_
    rcases cond_some hs_338 with ⟨hc_364, hs_338⟩ | ⟨hc_364, hs_338⟩
    ·refine k_true f rfl hc_364 ?_
     refine k_skip ?_
     refine k_seq ?_
     refine k_block ?_
     refine k_seq ?_
     refine k_region ?_
     obtain ⟨e_365, he_366, hs_338⟩ := bind_some hs_338
     refine l_at T59 f rfl rfl rfl h1 he_366 (fun p_367 c_368 a g_369 h_370 f => ?_)
     subst h_370
     refine l_loadAt m Pl66 f rfl rfl g_369 (fun a f => ?_)
     refine l_op f rfl rfl rfl (r_assign (f.eval rfl)) (fun a f => ?_)
     refine l_nil ?_
     refine k_seq ?_
     refine k_region ?_
     refine l_op f rfl rfl rfl (r_move (f.eval rfl)) (fun a f => ?_)
     refine l_op f rfl rfl rfl (r_move (f.eval rfl)) (fun a f => ?_)
     obtain ⟨y_371, hy_372, hs_338⟩ := bind_some hs_338
     refine l_res f rfl rfl Tryd.call76 (Wk.impl_vset_has m  hy_372) (fun v_376 G_373 Ho_377 w hl_374 m hQ_375 a f => ?_)
     obtain ⟨rfl, rfl⟩ := hQ_375
     have h1 := RSl.mono (RI.mono _) _ _ _ _ hl_374 h1
     have h0 := RSl.mono (RI.mono _) _ _ _ _ hl_374 h0
     have m : Mem W G_373 w (H) := m
     refine l_nil ?_
     rcases cond_some hs_338 with ⟨hc_378, hs_338⟩ | ⟨hc_378, hs_338⟩
     ·refine k_true f rfl hc_378 ?_
      refine k_region ?_
      refine l_op f rfl rfl rfl (r_move (f.eval rfl)) (fun a f => ?_)
      refine l_op f rfl rfl rfl (r_move (f.eval rfl)) (fun a f => ?_)
      refine l_op f rfl rfl rfl (r_int (f.eval rfl) (f.eval rfl) b_or) (fun a f => ?_)
      refine l_op f rfl rfl rfl (r_assign (f.eval rfl)) (fun a f => ?_)
      refine l_nil ?_
      refine k_region ?_
      refine l_op f rfl rfl rfl (r_int (f.eval rfl) (f.eval rfl) b_add) (fun a f => ?_)
      refine l_op f rfl rfl rfl (r_move (f.eval rfl)) (fun a f => ?_)
      refine l_nil ?_
      obtain rfl := Option.some.inj hs_338
      exact ⟨_, rfl, _, _, rfl, _, (GLe.trans hl_345 hl_374), f.weak ⟨rfl, rfl, rfl, rfl, rfl, rfl, rfl, rfl, rfl, rfl, trivial⟩, m⟩
     ·refine k_false f rfl hc_378 ?_
      refine k_skip ?_
      refine k_region ?_
      refine l_op f rfl rfl rfl (r_int (f.eval rfl) (f.eval rfl) b_add) (fun a f => ?_)
      refine l_op f rfl rfl rfl (r_move (f.eval rfl)) (fun a f => ?_)
      refine l_nil ?_
      obtain rfl := Option.some.inj hs_338
      exact ⟨_, rfl, _, _, rfl, _, (GLe.trans hl_345 hl_374), f.weak ⟨rfl, rfl, rfl, rfl, rfl, rfl, rfl, rfl, rfl, rfl, trivial⟩, m⟩
    ·refine k_false f rfl hc_364 ?_
     refine k_exit rfl ?_
     obtain rfl := Option.some.inj hs_338
     obtain rfl := hq_339 _ rfl
     exact ⟨_, rfl, _, hl_345, f.weak ⟨rfl, rfl, rfl, rfl, rfl, rfl, rfl, trivial⟩, m⟩
   ·rintro a w ⟨x_362, rfl, G_361, hl_363, f, m⟩
    have h1 := RSl.mono (RI.mono _) _ _ _ _ hl_363 h1
    have h0 := RSl.mono (RI.mono _) _ _ _ _ hl_363 h0
    refine k_seq ?_
    refine k_region ?_
    refine l_op f rfl rfl rfl (r_move (f.eval rfl)) (fun a f => ?_)
    refine l_op f rfl rfl rfl (r_move (f.eval rfl)) (fun a f => ?_)
    obtain ⟨y_379, hy_380, hs_193⟩ := bind_some hs_193
    refine l_res f rfl rfl Tryd.call76 (Wk.impl_vset_has m  hy_380) (fun v_384 G_381 Ho_385 w hl_382 m hQ_383 a f => ?_)
    obtain ⟨rfl, rfl⟩ := hQ_383
    have h1 := RSl.mono (RI.mono _) _ _ _ _ hl_382 h1
    have h0 := RSl.mono (RI.mono _) _ _ _ _ hl_382 h0
    have m : Mem W G_381 w (H) := m
    refine l_op f rfl rfl rfl (r_not (f.eval rfl)) (fun a f => ?_)
    refine l_op f rfl rfl rfl (r_move (f.eval rfl)) (fun a f => ?_)
    refine l_cut 5 (fun a w => ∃ G_387, GLe G_381 G_387 ∧ Mem W G_387 w (H) ∧ Fr a 41 [(1, v1), (5, (.int .i64 x_198)), (6, (.int .u32 e_297)), (7, (.int .u32 x_362)), (10, v0), (11, (.int .i64 (x0.length : Int))), (12, (.int .i64 x_198)), (30, (.int .u32 x_362)), (31, (.int .i64 x_198)), (32, (.bool y_379)), (33, (.bool (!y_379))), (34, (.bool (!y_379))), (39, (.bool ((!y_379) || ((iandNot .u32 e_297 x_362) != 0))))]) ?_ ?_
    ·rcases Bool.eq_false_or_eq_true (!y_379) with hc_386 | hc_386
     ·refine l_not' f rfl rfl rfl hc_386 (fun a f => ?_)
      refine l_not' f rfl rfl rfl hc_386 (fun a f => ?_)
      refine l_not' f rfl rfl rfl hc_386 (fun a f => ?_)
      refine l_not' f rfl rfl rfl hc_386 (fun a f => ?_)
      refine l_op f rfl rfl rfl (r_pickT (f.eval rfl) hc_386 (f.eval rfl)) (fun a f => ?_)
      exact ⟨_, (GLe.refl _), m, f.weak ⟨rfl, rfl, rfl, rfl, rfl, rfl, rfl, rfl, rfl, rfl, rfl, rfl, by rw [hc_386]; rfl, trivial⟩⟩
     ·refine l_run f rfl rfl hc_386 ?_
      refine l_op f rfl rfl rfl (r_move (f.eval rfl)) (fun a f => ?_)
      refine l_run f rfl rfl hc_386 ?_
      refine l_op f rfl rfl rfl (r_move (f.eval rfl)) (fun a f => ?_)
      refine l_run f rfl rfl hc_386 ?_
      refine l_op f rfl rfl rfl (r_int (f.eval rfl) (f.eval rfl) b_andNot) (fun a f => ?_)
      refine l_run f rfl rfl hc_386 ?_
      refine l_op f rfl rfl rfl (r_int (f.eval rfl) (f.eval rfl) b_neq) (fun a f => ?_)
      refine l_op f rfl rfl rfl (r_pickF (f.eval rfl) hc_386 (f.eval rfl)) (fun a f => ?_)
      exact ⟨_, (GLe.refl _), m, f.weak ⟨rfl, rfl, rfl, rfl, rfl, rfl, rfl, rfl, rfl, rfl, rfl, rfl, by rw [hc_386]; rfl, trivial⟩⟩
    ·rintro a w ⟨G_387, hl_388, m, f⟩
     have h1 := RSl.mono (RI.mono _) _ _ _ _ hl_388 h1
     have h0 := RSl.mono (RI.mono _) _ _ _ _ hl_388 h0
     refine l_nil ?_
     rcases cond_some hs_193 with ⟨hc_389, hs_193⟩ | ⟨hc_389, hs_193⟩
     ·refine k_true f rfl hc_389 ?_
      refine k_seq ?_
      refine k_region ?_
      refine l_op f rfl rfl rfl (r_assign (f.eval rfl)) (fun a f => ?_)
      refine l_nil ?_
      refine k_ret ?_
      obtain rfl := Option.some.inj hs_193
      obtain rfl := hq_194 _ rfl
      obtain rfl := Option.some.inj hd
      exact ⟨[(.bool false)], ⟨f.get _ _ rfl, trivial⟩, f.defers, _, [], (GLe.trans hl_199 (GLe.trans hl_363 (GLe.trans hl_382 hl_388))), m, rfl, rfl⟩
     ·refine k_false f rfl hc_389 ?_
      refine k_skip ?_
      refine k_region ?_
      refine l_op f rfl rfl rfl (r_int (f.eval rfl) (f.eval rfl) b_add) (fun a f => ?_)
      refine l_op f rfl rfl rfl (r_move (f.eval rfl)) (fun a f => ?_)
      refine l_nil ?_
      obtain rfl := Option.some.inj hs_193
      exact ⟨_, rfl, _, rfl, _, (GLe.trans hl_199 (GLe.trans hl_363 (GLe.trans hl_382 hl_388))), f.weak ⟨rfl, rfl, rfl, rfl, trivial⟩, m⟩
  ·refine k_false f rfl hc_296 ?_
   refine k_exit rfl ?_
   obtain rfl := Option.some.inj hs_193
   obtain rfl := hq_194 _ rfl
   exact ⟨_, rfl, _, hl_199, f.weak trivial, m⟩
 ·rintro a w ⟨_, rfl, G_294, hl_295, f, m⟩
  refine k_seq ?_
  refine k_region ?_
  refine l_op f rfl rfl rfl (r_assign (f.eval rfl)) (fun a f => ?_)
  refine l_nil ?_
  refine k_ret ?_
  obtain rfl := Option.some.inj hd
  exact ⟨[(.bool true)], ⟨f.get _ _ rfl, trivial⟩, f.defers, _, [], hl_295, m, rfl, rfl⟩

theorem Wk.impl_PathBagsOk {W w : World} {G : GH} {H : List Itm} {v0_0 : Value} {v1 : Value} {x0_0 : (List (List Int))} {x1 : (List (List Int))} (m : Mem W G w (H)) (h0_0 : RSl (RSl (RI .i64)) G v0_0 x0_0) (h1 : RSl (RSl (RI .i64)) G v1 x1) {y : Bool} (hd : D.impl_PathBagsOk x0_0 x1 = some y) :
  Calls Tryd.prog 13 #[(.agg #[v0_0]), v1] w (Res W G H (fun _ Ho v => Ho = [] ∧ v = (.bool y))) := by
 refine calls_b (args := [(.agg #[v0_0]), v1]) (N := 61) [.tmp 4] Tryd.func13 rfl rfl (Nat.le_of_ble_eq_true rfl) rfl (fun a f => ?_)
 unfold D.impl_PathBagsOk at hd
 refine k_seq ?_
 refine k_region ?_
 refine l_box (cs := [v0_0]) m f rfl rfl rfl (fun b_2 w a m f => ?_)
 refine l_op f rfl rfl rfl (r_assign (f.eval rfl)) (fun a f => ?_)
 refine l_nil ?_
 refine k_seq ?_
 refine k_seq ?_
 refine k_region ?_
 refine l_boxAgg 0 0 (ds := [v0_0]) m Ag29 f rfl rfl rfl rfl rfl (fun a f => ?_)
 obtain ⟨y_3, hy_4, hd⟩ := bind_some hd
 refine l_res f rfl rfl Tryd.call55 (Wk.impl_GraphOk m h0_0 hy_4) (fun v_8 G_5 Ho_9 w hl_6 m hQ_7 a f => ?_)
 obtain ⟨rfl, rfl⟩ := hQ_7
 have h0_0 := RSl.mono (RSl.mono (RI.mono _)) _ _ _ _ hl_6 h0_0
 have h1 := RSl.mono (RSl.mono (RI.mono _)) _ _ _ _ hl_6 h1
 have m : Mem W G_5 w (Itm.box b_2 29 [v0_0] :: H) := m
 refine l_op f rfl rfl rfl (r_not (f.eval rfl)) (fun a f => ?_)
 refine l_op f rfl rfl rfl (r_move (f.eval rfl)) (fun a f => ?_)
 refine l_cut 4 (fun a w => ∃ G_11, GLe G_5 G_11 ∧ Mem W G_11 w (Itm.box b_2 29 [v0_0] :: H) ∧ Fr a 61 [(0, (.agg #[v0_0])), (1, v1), (2, (.pointer (some ⟨b_2, 0, none⟩))), (12, (.agg #[v0_0])), (13, (.bool y_3)), (14, (.bool (!y_3))), (15, (.bool (!y_3))), (19, (.bool ((!y_3) || (decide ((16 : Int) < (x1.length : Int))))))]) ?_ ?_
 ·rcases Bool.eq_false_or_eq_true (!y_3) with hc_10 | hc_10
  ·refine l_not' f rfl rfl rfl hc_10 (fun a f => ?_)
   refine l_not' f rfl rfl rfl hc_10 (fun a f => ?_)
   refine l_not' f rfl rfl rfl hc_10 (fun a f => ?_)
   refine l_op f rfl rfl rfl (r_pickT (f.eval rfl) hc_10 (f.eval rfl)) (fun a f => ?_)
   exact ⟨_, (GLe.refl _), m, f.weak ⟨rfl, rfl, rfl, rfl, rfl, rfl, rfl, by rw [hc_10]; rfl, trivial⟩⟩
  ·refine l_run f rfl rfl hc_10 ?_
   refine l_op f rfl rfl rfl (r_move (f.eval rfl)) (fun a f => ?_)
   refine l_run f rfl rfl hc_10 ?_
   refine l_len Tryd.underlying27 f rfl rfl h1 (fun a f => ?_)
   refine l_run f rfl rfl hc_10 ?_
   refine l_op f rfl rfl rfl (r_int (f.eval rfl) (f.eval rfl) b_gtr) (fun a f => ?_)
   refine l_op f rfl rfl rfl (r_pickF (f.eval rfl) hc_10 (f.eval rfl)) (fun a f => ?_)
   exact ⟨_, (GLe.refl _), m, f.weak ⟨rfl, rfl, rfl, rfl, rfl, rfl, rfl, by rw [hc_10]; rfl, trivial⟩⟩
 ·rintro a w ⟨G_11, hl_12, m, f⟩
  have h0_0 := RSl.mono (RSl.mono (RI.mono _)) _ _ _ _ hl_12 h0_0
  have h1 := RSl.mono (RSl.mono (RI.mono _)) _ _ _ _ hl_12 h1
  refine l_nil ?_
  rcases cond_some hd with ⟨hc_13, hd⟩ | ⟨hc_13, hd⟩
  ·refine k_true f rfl hc_13 ?_
   refine k_seq ?_
   refine k_region ?_
   refine l_op f rfl rfl rfl (r_assign (f.eval rfl)) (fun a f => ?_)
   refine l_nil ?_
   refine k_ret ?_
   have m : Mem W G_11 w H := Mem.drop (H' := [Itm.box b_2 29 [v0_0]]) m
   obtain rfl := Option.some.inj hd
   exact ⟨[(.bool false)], ⟨f.get _ _ rfl, trivial⟩, f.defers, _, [], (GLe.trans hl_6 hl_12), m, rfl, rfl⟩
  ·refine k_false f rfl hc_13 ?_
   refine k_skip ?_
   refine k_seq ?_
   refine k_seq ?_
   refine k_region ?_
   refine l_op f rfl rfl rfl (r_move (f.eval rfl)) (fun a f => ?_)
   refine l_len Tryd.underlying27 f rfl rfl h1 (fun a f => ?_)
   refine l_op f rfl rfl rfl (r_move (f.eval rfl)) (fun a f => ?_)
   refine l_nil ?_
   obtain ⟨q_84, hl_85, hd⟩ := bind_some hd
   refine k_cut (fun a w => ∃ q_84' : Unit, q_84 = .inl q_84' ∧ ∃ (G_127 : GH), GLe G_11 G_127 ∧ Fr a 61 [(1, v1), (2, (.pointer (some ⟨b_2, 0, none⟩)))] ∧ Mem W G_127 w (Itm.box b_2 29 [v0_0] :: H)) ?_ ?_
   ·refine k_block ?_
    refine k_loop (fun s_88 a w => ∃ x_91 : Int, x_91 = s_88 ∧ ∃ (G_90 : GH), GLe G_11 G_90 ∧ Fr a 61 [(1, v1), (2, (.pointer (some ⟨b_2, 0, none⟩))), (20, v1), (21, (.int .i64 (x1.length : Int))), (22, (.int .i64 x_91))] ∧ Mem W G_90 w (Itm.box b_2 29 [v0_0] :: H)) hl_85 ⟨_, rfl, _, (GLe.refl _), f.weak ⟨rfl, rfl, rfl, rfl, rfl, trivial⟩, m⟩ ?_
    clear hl_85 f m
    rintro s_88 o_89 hs_86 hq_87 a w ⟨x_91, rfl, G_90, hl_92, f, m⟩
    have h1 := RSl.mono (RSl.mono (RI.mono _)) _ _ _ _ hl_92 h1
    have h0_0 := RSl.mono (RSl.mono (RI.mono _)) _ _ _ _ hl_92 h0_0
    refine k_seq ?_
    refine k_region ?_
    refine l_op f rfl rfl rfl (r_int (f.eval rfl) (f.eval rfl) b_lss) (fun a f => ?_)
    refine l_nil ?_
    refine k_seq ?_
    rcases cond_some hs_86 with ⟨hc_129, hs_86⟩ | ⟨hc_129, hs_86⟩
    ·refine k_true f rfl hc_129 ?_
     refine k_skip ?_
     refine k_seq ?_
     refine k_block ?_
     refine k_seq ?_
     refine k_region ?_
     obtain ⟨e_130, he_131, hs_86⟩ := bind_some hs_86
     refine l_at T27 f rfl rfl rfl h1 he_131 (fun p_132 c_133 a g_134 h_135 f => ?_)
     refine l_loadAt m Pl31 f rfl rfl g_134 (fun a f => ?_)
     refine l_op f rfl rfl rfl (r_assign (f.eval rfl)) (fun a f => ?_)
     refine l_nil ?_
     refine k_seq ?_
     refine k_region ?_
     refine l_op f rfl rfl rfl (r_move (f.eval rfl)) (fun a f => ?_)
     refine l_len Tryd.underlying31 f rfl rfl h_135 (fun a f => ?_)
     refine l_op f rfl rfl rfl (r_int (f.eval rfl) (f.eval rfl) b_eql) (fun a f => ?_)
     refine l_op f rfl rfl rfl (r_move (f.eval rfl)) (fun a f => ?_)
     obtain ⟨b_153, hj_154, hs_86⟩ := bind_some hs_86
     refine l_cut 7 (fun a w => ∃ G_151, GLe G_90 G_151 ∧ Mem W G_151 w (Itm.box b_2 29 [v0_0] :: H) ∧ Fr a 61 [(1, v1), (2, (.pointer (some ⟨b_2, 0, none⟩))), (6, c_133), (20, v1), (21, (.int .i64 (x1.length : Int))), (22, (.int .i64 x_91)), (26, c_133), (27, (.int .i64 (e_130.length : Int))), (28, (.bool ((e_130.length : Int) == 0))), (29, (.bool ((e_130.length : Int) == 0))), (36, (.bool b_153))]) ?_ ?_
     ·rcases cond_some hj_154 with ⟨hc_136, hj_154⟩ | ⟨hc_136, hj_154⟩
      ·refine l_not' f rfl rfl rfl hc_136 (fun a f => ?_)
       refine l_not' f rfl rfl rfl hc_136 (fun a f => ?_)
       refine l_not' f rfl rfl rfl hc_136 (fun a f => ?_)
       refine l_not' f rfl rfl rfl hc_136 (fun a f => ?_)
       refine l_not' f rfl rfl rfl hc_136 (fun a f => ?_)
       refine l_not' f rfl rfl rfl hc_136 (fun a f => ?_)
       refine l_op f rfl rfl rfl (r_pickT (f.eval rfl) hc_136 (f.eval rfl)) (fun a f => ?_)
       obtain rfl := Option.some.inj hj_154
       exact ⟨_, (GLe.refl _), m, f.weak ⟨rfl, rfl, rfl, rfl, rfl, rfl, rfl, rfl, rfl, rfl, rfl, trivial⟩⟩
      ·refine l_run f rfl rfl hc_136 ?_
       refine l_op f rfl rfl rfl (r_move (f.eval rfl)) (fun a f => ?_)
       refine l_run f rfl rfl hc_136 ?_
       refine l_fieldAddr Tryd.underlying29 rfl Tryd.sizeOf27 (by decide) f rfl rfl (fun a f => ?_)
       refine l_run f rfl rfl hc_136 ?_
       refine l_boxCell 0 0 m Pl27 f rfl rfl rfl rfl (fun a f => ?_)
       refine l_run f rfl rfl hc_136 ?_
       refine l_len Tryd.underlying27 f rfl rfl h0_0 (fun a f => ?_)
       refine l_run f rfl rfl hc_136 ?_
       obtain ⟨y_155, hy_156, hj_154⟩ := bind_some hj_154
       refine l_res f rfl rfl Tryd.call56 (Wk.impl_increasing m h_135 hy_156) (fun v_160 G_157 Ho_161 w hl_158 m hQ_159 a f => ?_)
       obtain ⟨rfl, rfl⟩ := hQ_159
       have h1 := RSl.mono (RSl.mono (RI.mono _)) _ _ _ _ hl_158 h1
       have h_135 := RSl.mono (RI.mono _) _ _ _ _ hl_158 h_135
       have h0_0 := RSl.mono (RSl.mono (RI.mono _)) _ _ _ _ hl_158 h0_0
       have m : Mem W G_157 w (Itm.box b_2 29 [v0_0] :: H) := m
       refine l_run f rfl rfl hc_136 ?_
       refine l_op f rfl rfl rfl (r_not (f.eval rfl)) (fun a f => ?_)
       refine l_op f rfl rfl rfl (r_pickF (f.eval rfl) hc_136 (f.eval rfl)) (fun a f => ?_)
       obtain rfl := Option.some.inj hj_154
       exact ⟨_, hl_158, m, f.weak ⟨rfl, rfl, rfl, rfl, rfl, rfl, rfl, rfl, rfl, rfl, rfl, trivial⟩⟩
     ·rintro a w ⟨G_151, hl_152, m, f⟩
      have h1 := RSl.mono (RSl.mono (RI.mono _)) _ _ _ _ hl_152 h1
      have h_135 := RSl.mono (RI.mono _) _ _ _ _ hl_152 h_135
      have h0_0 := RSl.mono (RSl.mono (RI.mono _)) _ _ _ _ hl_152 h0_0
      refine l_nil ?_
      rcases cond_some hs_86 with ⟨hc_162, hs_86⟩ | ⟨hc_162, hs_86⟩
      ·refine k_true f rfl hc_162 ?_
       refine k_seq ?_
       refine k_region ?_
       refine l_op f rfl rfl rfl (r_assign (f.eval rfl)) (fun a f => ?_)
       refine l_nil ?_
       refine k_ret ?_
       have m : Mem W G_151 w H := Mem.drop (H' := [Itm.box b_2 29 [v0_0]]) m
       obtain rfl := Option.some.inj hs_86
       obtain rfl := hq_87 _ rfl
       obtain rfl := Option.some.inj hd
       exact ⟨[(.bool false)], ⟨f.get _ _ rfl, trivial⟩, f.defers, _, [], (GLe.trans hl_6 (GLe.trans hl_12 (GLe.trans hl_92 hl_152))), m, rfl, rfl⟩
      ·refine k_false f rfl hc_162 ?_
       refine k_skip ?_
       refine k_region ?_
       refine l_op f rfl rfl rfl (r_int (f.eval rfl) (f.eval rfl) b_add) (fun a f => ?_)
       refine l_op f rfl rfl rfl (r_move (f.eval rfl)) (fun a f => ?_)
       refine l_nil ?_
       obtain rfl := Option.some.inj hs_86
       exact ⟨_, rfl, _, rfl, _, (GLe.trans hl_92 hl_152), f.weak ⟨rfl, rfl, rfl, rfl, rfl, trivial⟩, m⟩
    ·refine k_false f rfl hc_129 ?_
     refine k_exit rfl ?_
     obtain rfl := Option.some.inj hs_86
     obtain rfl := hq_87 _ rfl
     exact ⟨_, rfl, _, hl_92, f.weak ⟨rfl, rfl, trivial⟩, m⟩
   ·rintro a w ⟨_, rfl, G_127, hl_128, f, m⟩
    have h1 := RSl.mono (RSl.mono (RI.mono _)) _ _ _ _ hl_128 h1
    have h0_0 := RSl.mono (RSl.mono (RI.mono _)) _ _ _ _ hl_128 h0_0
    refine k_seq ?_
    refine k_region ?_
    refine l_op f rfl rfl rfl (r_move (f.eval rfl)) (fun a f => ?_)
    obtain ⟨y_163, hy_164, hd⟩ := bind_some hd
    refine l_res f rfl rfl Tryd.call57 (Wk.impl_bagMasks m h1 hy_164) (fun v_168 G_165 Ho_169 w hl_166 m hQ_167 a f => ?_)
    obtain ⟨v_170, it_171, rfl, rfl, o_172⟩ := hQ_167
    have h1 := RSl.mono (RSl.mono (RI.mono _)) _ _ _ _ hl_166 h1
    have h0_0 := RSl.mono (RSl.mono (RI.mono _)) _ _ _ _ hl_166 h0_0
    have m : Mem W G_165 w (it_171 :: Itm.box b_2 29 [v0_0] :: H) := m
    refine l_op f rfl rfl rfl (r_assign (f.eval rfl)) (fun a f => ?_)
    refine l_op f rfl rfl rfl (r_assign (f.eval rfl)) (fun a f => ?_)
    refine l_op f rfl rfl rfl (r_assign (f.eval rfl)) (fun a f => ?_)
    refine l_nil ?_
    refine k_seq ?_
    refine k_seq ?_
    refine k_region ?_
    refine l_op f rfl rfl rfl (r_move (f.eval rfl)) (fun a f => ?_)
    refine l_own_len 0 m o_172 rfl Tryd.underlying59 f rfl rfl (fun a f => ?_)
    refine l_op f rfl rfl rfl (r_move (f.eval rfl)) (fun a f => ?_)
    refine l_nil ?_
    obtain ⟨q_194, hl_195, hd⟩ := bind_some hd
    refine k_cut (fun a w => ∃ q_194' : Unit, q_194 = .inl q_194' ∧ ∃ (G_213 : GH), GLe G_165 G_213 ∧ Fr a 61 [(2, (.pointer (some ⟨b_2, 0, none⟩))), (7, v_170)] ∧ Mem W G_213 w (Itm.box b_2 29 [v0_0] :: it_171 :: H)) ?_ ?_
    ·refine k_block ?_
     have m : Mem W G_165 w (Itm.box b_2 29 [v0_0] :: it_171 :: H) := m.front 1 rfl
     refine k_loop (fun s_198 a w => ∃ x_201 : Int, ∃ x_202 : Int, ∃ x_203 : Int, (x_201, x_202, x_203) = s_198 ∧ ∃ (G_200 : GH), GLe G_165 G_200 ∧ Fr a 61 [(2, (.pointer (some ⟨b_2, 0, none⟩))), (7, v_170), (8, (.int .u32 x_201)), (9, (.int .u32 x_202)), (40, v_170), (41, (.int .i64 (y_163.length : Int))), (42, (.int .i64 x_203))] ∧ Mem W G_200 w (Itm.box b_2 29 [v0_0] :: it_171 :: H)) hl_195 ⟨_, _, _, rfl, _, (GLe.refl _), f.weak ⟨rfl, rfl, rfl, rfl, rfl, rfl, rfl, trivial⟩, m⟩ ?_
     clear hl_195 f m
     rintro s_198 o_199 hs_196 hq_197 a w ⟨x_201, x_202, x_203, rfl, G_200, hl_204, f, m⟩
     have h0_0 := RSl.mono (RSl.mono (RI.mono _)) _ _ _ _ hl_204 h0_0
     have o_172 := Ow.mono (RI.mono _) hl_204 o_172
     refine k_seq ?_
     refine k_region ?_
     refine l_op f rfl rfl rfl (r_int (f.eval rfl) (f.eval rfl) b_lss) (fun a f => ?_)
     refine l_nil ?_
     refine k_seq ?_
     rcases cond_some hs_196 with ⟨hc_215, hs_196⟩ | ⟨hc_215, hs_196⟩
     ·refine k_true f rfl hc_215 ?_
      refine k_skip ?_
      refine k_seq ?_
      refine k_block ?_
      refine k_seq ?_
      refine k_region ?_
      obtain ⟨e_216, he_217, hs_196⟩ := bind_some hs_196
      refine l_own_at 1 m o_172 rfl T59 f rfl rfl rfl he_217 (fun p_218 a ha_219 f => ?_)
      refine l_own_load 1 m o_172 rfl Pl66 f rfl rfl ha_219 he_217 (fun c_220 a h_221 f => ?_)
      subst h_221
      refine l_op f rfl rfl rfl (r_assign (f.eval rfl)) (fun a f => ?_)
      refine l_nil ?_
      refine k_seq ?_
      refine k_seq ?_
      refine k_region ?_
      refine l_op f rfl rfl rfl (r_move (f.eval rfl)) (fun a f => ?_)
      refine l_op f rfl rfl rfl (r_move (f.eval rfl)) (fun a f => ?_)
      refine l_op f rfl rfl rfl (r_int (f.eval rfl) (f.eval rfl) b_and) (fun a f => ?_)
      refine l_op f rfl rfl rfl (r_int (f.eval rfl) (f.eval rfl) b_neq) (fun a f => ?_)
      refine l_nil ?_
      rcases cond_some hs_196 with ⟨hc_222, hs_196⟩ | ⟨hc_222, hs_196⟩
      ·refine k_true f rfl hc_222 ?_
       refine k_seq ?_
       refine k_region ?_
       refine l_op f rfl rfl rfl (r_assign (f.eval rfl)) (fun a f => ?_)
       refine l_nil ?_
       refine k_ret ?_
       have m : Mem W G_200 w H := Mem.drop (H' := [Itm.box b_2 29 [v0_0], it_171]) m
       obtain rfl := Option.some.inj hs_196
       obtain rfl := hq_197 _ rfl
       obtain rfl := Option.some.inj hd
       exact ⟨[(.bool false)], ⟨f.get _ _ rfl, trivial⟩, f.defers, _, [], (GLe.trans hl_6 (GLe.trans hl_12 (GLe.trans hl_128 (GLe.trans hl_166 hl_204)))), m, rfl, rfl⟩
      ·refine k_false f rfl hc_222 ?_
       refine k_skip ?_
       refine k_seq ?_
       refine k_region ?_
       refine l_op f rfl rfl rfl (r_move (f.eval rfl)) (fun a f => ?_)
       refine l_op f rfl rfl rfl (r_move (f.eval rfl)) (fun a f => ?_)
       refine l_op f rfl rfl rfl (r_move (f.eval rfl)) (fun a f => ?_)
       refine l_op f rfl rfl rfl (r_int (f.eval rfl) (f.eval rfl) b_andNot) (fun a f => ?_)
       refine l_op f rfl rfl rfl (r_int (f.eval rfl) (f.eval rfl) b_or) (fun a f => ?_)
       refine l_op f rfl rfl rfl (r_assign (f.eval rfl)) (fun a f => ?_)
       refine l_nil ?_
       refine k_region ?_
       refine l_op f rfl rfl rfl (r_move (f.eval rfl)) (fun a f => ?_)
       refine l_op f rfl rfl rfl (r_assign (f.eval rfl)) (fun a f => ?_)
       refine l_nil ?_
       refine k_region ?_
       refine l_op f rfl rfl rfl (r_int (f.eval rfl) (f.eval rfl) b_add) (fun a f => ?_)
       refine l_op f rfl rfl rfl (r_move (f.eval rfl)) (fun a f => ?_)
       refine l_nil ?_
       have m : Mem W G_200 w (it_171 :: Itm.box b_2 29 [v0_0] :: H) := m.front 1 rfl
       have m : Mem W G_200 w (Itm.box b_2 29 [v0_0] :: it_171 :: H) := m.front 1 rfl
       obtain rfl := Option.some.inj hs_196
       exact ⟨_, rfl, _, _, _, rfl, _, hl_204, f.weak ⟨rfl, rfl, rfl, rfl, rfl, rfl, rfl, trivial⟩, m⟩
     ·refine k_false f rfl hc_215 ?_
      refine k_exit rfl ?_
      have m : Mem W G_200 w (it_171 :: Itm.box b_2 29 [v0_0] :: H) := m.front 1 rfl
      have m : Mem W G_200 w (Itm.box b_2 29 [v0_0] :: it_171 :: H) := m.front 1 rfl
      obtain rfl := Option.some.inj hs_196
      obtain rfl := hq_197 _ rfl
      exact ⟨_, rfl, _, hl_204, f.weak ⟨rfl, rfl, trivial⟩, m⟩
    ·rintro a w ⟨_, rfl, G_213, hl_214, f, m⟩
     have h0_0 := RSl.mono (RSl.mono (RI.mono _)) _ _ _ _ hl_214 h0_0
     have o_172 := Ow.mono (RI.mono _) hl_214 o_172
     refine k_seq ?_
     refine k_region ?_
     refine l_boxAgg 0 0 (ds := [v0_0]) m Ag29 f rfl rfl rfl rfl rfl (fun a f => ?_)
     obtain ⟨y_223, hy_224, hd⟩ := bind_some hd
     refine l_res f rfl rfl Tryd.call46 (Wk.impl_netsOf m h0_0 hy_224) (fun v_228 G_225 Ho_229 w hl_226 m hQ_227 a f => ?_)
     obtain ⟨v_230, it_231, rfl, rfl, o_232⟩ := hQ_227
     have h0_0 := RSl.mono (RSl.mono (RI.mono _)) _ _ _ _ hl_226 h0_0
     have o_172 := Ow.mono (RI.mono _) hl_226 o_172
     have m : Mem W G_225 w (it_231 :: Itm.box b_2 29 [v0_0] :: it_171 :: H) := m
     refine l_op f rfl rfl rfl (r_move (f.eval rfl)) (fun a f => ?_)
     obtain ⟨y_234, hy_235, hd⟩ := bind_some hd
     refine l_res f rfl rfl Tryd.call58 (Ow.lendCall (RI.mono _) 0 o_232 m rfl (fun G_236 hl_237 m h_238 => (Ow.lendCall (RI.mono _) 1 (Ow.mono (RI.mono _) hl_237 o_172) m rfl (fun G_239 hl_240 m h_241 => Wk.impl_coversEdges m (RSl.mono (RI.mono _) _ _ _ _ hl_240 h_238) h_241 hy_235) (fun _ _ _ _ h => h))) (fun _ _ _ _ h => h)) (fun v_245 G_242 Ho_246 w hl_243 m hQ_244 a f => ?_)
     obtain ⟨rfl, rfl⟩ := hQ_244
     have h0_0 := RSl.mono (RSl.mono (RI.mono _)) _ _ _ _ hl_243 h0_0
     have o_232 := Ow.mono (RI.mono _) hl_243 o_232
     have o_172 := Ow.mono (RI.mono _) hl_243 o_172
     have m : Mem W G_242 w (it_231 :: Itm.box b_2 29 [v0_0] :: it_171 :: H) := m
     refine l_op f rfl rfl rfl (r_assign (f.eval rfl)) (fun a f => ?_)
     refine l_nil ?_
     refine k_ret ?_
     have m : Mem W G_242 w H := Mem.drop (H' := [it_231, Itm.box b_2 29 [v0_0], it_171]) m
     obtain rfl := Option.some.inj hd
     exact ⟨[(.bool y_234)], ⟨f.get _ _ rfl, trivial⟩, f.defers, _, [], (GLe.trans hl_6 (GLe.trans hl_12 (GLe.trans hl_128 (GLe.trans hl_166 (GLe.trans hl_214 (GLe.trans hl_226 hl_243)))))), m, rfl, rfl⟩

theorem Wk.impl_BagsWidth_1 {W w : World} {G : GH} {H : List Itm} {v0 : Value} {x0 : (List Int)} (m : Mem W G w (H)) (h0 : RSl (RI .i64) G v0 x0) {y : Bool} (hd : D.impl_BagsWidth_1 x0 = some y) :
  Calls Tryd.prog 60 #[v0] w (Res W G H (fun _ Ho v => Ho = [] ∧ v = (.bool y))) := by
 refine calls_b (args := [v0]) (N := 6) [.tmp 2] Tryd.func60 rfl rfl (Nat.le_of_ble_eq_true rfl) rfl (fun a f => ?_)
 unfold D.impl_BagsWidth_1 at hd
 refine k_seq ?_
 refine k_region ?_
 refine l_op f rfl rfl rfl (r_assign (f.eval rfl)) (fun a f => ?_)
 refine l_nil ?_
 refine k_seq ?_
 refine k_region ?_
 refine l_op f rfl rfl rfl (r_move (f.eval rfl)) (fun a f => ?_)
 refine l_len Tryd.underlying31 f rfl rfl h0 (fun a f => ?_)
 refine l_op f rfl rfl rfl (r_int (f.eval rfl) (f.eval rfl) b_gtr) (fun a f => ?_)
 refine l_op f rfl rfl rfl (r_assign (f.eval rfl)) (fun a f => ?_)
 refine l_nil ?_
 refine k_ret ?_
 obtain rfl := Option.some.inj hd
 exact ⟨[(.bool (decide ((16 : Int) < (x0.length : Int))))], ⟨f.get _ _ rfl, trivial⟩, f.defers, _, [], (GLe.refl _), m, rfl, rfl⟩

theorem Wk.impl_largestBag {W w : World} {G : GH} {H : List Itm} {v0 : Value} {x0 : (List (List Int))} (m : Mem W G w (H)) (h0 : RSl (RSl (RI .i64)) G v0 x0) {y : Int} (hd : D.impl_largestBag x0 = some y) :
  Calls Tryd.prog 61 #[v0] w (Res W G H (fun _ Ho v => Ho = [] ∧ v = (.int .i64 y))) := by
 refine calls_b (args := [v0]) (N := 27) [.tmp 2] Tryd.func61 rfl rfl (Nat.le_of_ble_eq_true rfl) rfl (fun a f => ?_)
 unfold D.impl_largestBag at hd
 refine k_seq ?_
 refine k_region ?_
 refine l_op f rfl rfl rfl (r_assign (f.eval rfl)) (fun a f => ?_)
 refine l_nil ?_
 refine k_seq ?_
 refine k_seq ?_
 refine k_region ?_
 refine l_op f rfl rfl rfl (r_move (f.eval rfl)) (fun a f => ?_)
 refine l_len Tryd.underlying27 f rfl rfl h0 (fun a f => ?_)
 refine l_op f rfl rfl rfl (r_int (f.eval rfl) (f.eval rfl) b_lss) (fun a f => ?_)
 refine l_op f rfl rfl rfl (r_move (f.eval rfl)) (fun a f => ?_)
 refine l_cut 4 (fun a w => ∃ G_2, GLe G G_2 ∧ Mem W G_2 w (H) ∧ Fr a 27 [(0, v0), (6, v0), (7, (.int .i64 (x0.length : Int))), (8, (.bool (decide ((x0.length : Int) < 1)))), (9, (.bool (decide ((x0.length : Int) < 1)))), (13, (.bool ((decide ((x0.length : Int) < 1)) || (decide ((16 : Int) < (x0.length : Int))))))]) ?_ ?_
 ·rcases Bool.eq_false_or_eq_true (decide ((x0.length : Int) < 1)) with hc_1 | hc_1
  ·refine l_not' f rfl rfl rfl hc_1 (fun a f => ?_)
   refine l_not' f rfl rfl rfl hc_1 (fun a f => ?_)
   refine l_not' f rfl rfl rfl hc_1 (fun a f => ?_)
   refine l_op f rfl rfl rfl (r_pickT (f.eval rfl) hc_1 (f.eval rfl)) (fun a f => ?_)
   exact ⟨_, (GLe.refl _), m, f.weak ⟨rfl, rfl, rfl, rfl, rfl, by rw [hc_1]; rfl, trivial⟩⟩
  ·refine l_run f rfl rfl hc_1 ?_
   refine l_op f rfl rfl rfl (r_move (f.eval rfl)) (fun a f => ?_)
   refine l_run f rfl rfl hc_1 ?_
   refine l_len Tryd.underlying27 f rfl rfl h0 (fun a f => ?_)
   refine l_run f rfl rfl hc_1 ?_
   refine l_op f rfl rfl rfl (r_int (f.eval rfl) (f.eval rfl) b_gtr) (fun a f => ?_)
   refine l_op f rfl rfl rfl (r_pickF (f.eval rfl) hc_1 (f.eval rfl)) (fun a f => ?_)
   exact ⟨_, (GLe.refl _), m, f.weak ⟨rfl, rfl, rfl, rfl, rfl, by rw [hc_1]; rfl, trivial⟩⟩
 ·rintro a w ⟨G_2, hl_3, m, f⟩
  have h0 := RSl.mono (RSl.mono (RI.mono _)) _ _ _ _ hl_3 h0
  refine l_nil ?_
  rcases cond_some hd with ⟨hc_4, hd⟩ | ⟨hc_4, hd⟩
  ·refine k_true f rfl hc_4 ?_
   refine k_seq ?_
   refine k_region ?_
   refine l_op f rfl rfl rfl (r_assign (f.eval rfl)) (fun a f => ?_)
   refine l_nil ?_
   refine k_ret ?_
   obtain rfl := Option.some.inj hd
   exact ⟨[(.int .i64 (-1))], ⟨f.get _ _ rfl, trivial⟩, f.defers, _, [], hl_3, m, rfl, rfl⟩
  ·refine k_false f rfl hc_4 ?_
   refine k_skip ?_
   refine k_seq ?_
   refine k_region ?_
   refine l_op f rfl rfl rfl (r_assign (f.eval rfl)) (fun a f => ?_)
   refine l_nil ?_
   refine k_seq ?_
   refine k_seq ?_
   refine k_region ?_
   refine l_op f rfl rfl rfl (r_move (f.eval rfl)) (fun a f => ?_)
   refine l_len Tryd.underlying27 f rfl rfl h0 (fun a f => ?_)
   refine l_op f rfl rfl rfl (r_move (f.eval rfl)) (fun a f => ?_)
   refine l_nil ?_
   obtain ⟨q_22, hl_23, hd⟩ := bind_some hd
   refine k_cut (fun a w => ∃ x_40 : Int, x_40 = q_22 ∧ ∃ (G_39 : GH), GLe G_2 G_39 ∧ Fr a 27 [(3, (.int .i64 x_40))] ∧ Mem W G_39 w (H)) ?_ ?_
   ·refine k_block ?_
    refine k_loop (fun s_26 a w => ∃ x_29 : Int, ∃ x_30 : Int, (x_29, x_30) = s_26 ∧ ∃ (G_28 : GH), GLe G_2 G_28 ∧ Fr a 27 [(3, (.int .i64 x_29)), (14, v0), (15, (.int .i64 (x0.length : Int))), (16, (.int .i64 x_30))] ∧ Mem W G_28 w (H)) hl_23 ⟨_, _, rfl, _, (GLe.refl _), f.weak ⟨rfl, rfl, rfl, rfl, trivial⟩, m⟩ ?_
    clear hl_23 f m
    rintro s_26 o_27 hs_24 hq_25 a w ⟨x_29, x_30, rfl, G_28, hl_31, f, m⟩
    have h0 := RSl.mono (RSl.mono (RI.mono _)) _ _ _ _ hl_31 h0
    refine k_seq ?_
    refine k_region ?_
    refine l_op f rfl rfl rfl (r_int (f.eval rfl) (f.eval rfl) b_lss) (fun a f => ?_)
    refine l_nil ?_
    refine k_seq ?_
    rcases cond_some hs_24 with ⟨hc_42, hs_24⟩ | ⟨hc_42, hs_24⟩
    ·refine k_true f rfl hc_42 ?_
     refine k_skip ?_
     refine k_seq ?_
     refine k_block ?_
     refine k_seq ?_
     refine k_region ?_
     obtain ⟨e_43, he_44, hs_24⟩ := bind_some hs_24
     refine l_at T27 f rfl rfl rfl h0 he_44 (fun p_45 c_46 a g_47 h_48 f => ?_)
     refine l_loadAt m Pl31 f rfl rfl g_47 (fun a f => ?_)
     refine l_op f rfl rfl rfl (r_assign (f.eval rfl)) (fun a f => ?_)
     refine l_nil ?_
     refine k_region ?_
     refine l_op f rfl rfl rfl (r_move (f.eval rfl)) (fun a f => ?_)
     refine l_op f rfl rfl rfl (r_move (f.eval rfl)) (fun a f => ?_)
     refine l_len Tryd.underlying31 f rfl rfl h_48 (fun a f => ?_)
     refine l_op f rfl rfl rfl (r_max2 (f.eval rfl) (f.eval rfl)) (fun a f => ?_)
     refine l_op f rfl rfl rfl (r_assign (f.eval rfl)) (fun a f => ?_)
     refine l_nil ?_
     refine k_region ?_
     refine l_op f rfl rfl rfl (r_int (f.eval rfl) (f.eval rfl) b_add) (fun a f => ?_)
     refine l_op f rfl rfl rfl (r_move (f.eval rfl)) (fun a f => ?_)
     refine l_nil ?_
     obtain rfl := Option.some.inj hs_24
     exact ⟨_, rfl, _, _, rfl, _, hl_31, f.weak ⟨rfl, rfl, rfl, rfl, trivial⟩, m⟩
    ·refine k_false f rfl hc_42 ?_
     refine k_exit rfl ?_
     obtain rfl := Option.some.inj hs_24
     obtain rfl := hq_25 _ rfl
     exact ⟨_, rfl, _, hl_31, f.weak ⟨rfl, trivial⟩, m⟩
   ·rintro a w ⟨x_40, rfl, G_39, hl_41, f, m⟩
    refine k_seq ?_
    refine k_region ?_
    refine l_op f rfl rfl rfl (r_move (f.eval rfl)) (fun a f => ?_)
    refine l_op f rfl rfl rfl (r_int (f.eval rfl) (f.eval rfl) b_sub) (fun a f => ?_)
    refine l_op f rfl rfl rfl (r_assign (f.eval rfl)) (fun a f => ?_)
    refine l_nil ?_
    refine k_ret ?_
    obtain rfl := Option.some.inj hd
    exact ⟨[(.int .i64 (IntKind.i64.wrap (x_40 - 1)))], ⟨f.get _ _ rfl, trivial⟩, f.defers, _, [], (GLe.trans hl_3 hl_41), m, rfl, rfl⟩

theorem Wk.slices_IndexFunc_int64_int64__impl_BagsWidth_1 {W w : World} {G : GH} {H : List Itm} {v0 : Value} {x0 : (List (List Int))} (m : Mem W G w (H)) (h0 : RSl (RSl (RI .i64)) G v0 x0) {y : Int} (hd : D.slices_IndexFunc_int64_int64__impl_BagsWidth_1 x0 = some y) :
  Calls Tryd.prog 104 #[v0, (.func (.func 60) #[] #[])] w (Res W G H (fun _ Ho v => Ho = [] ∧ v = (.int .i64 y))) := by
 refine calls_b (args := [v0, (.func (.func 60) #[] #[])]) (N := 19) [.tmp 4] Tryd.func104 rfl rfl (Nat.le_of_ble_eq_true rfl) rfl (fun a f => ?_)
 unfold D.slices_IndexFunc_int64_int64__impl_BagsWidth_1 at hd
 refine k_seq ?_
 refine k_region ?_
 refine l_op f rfl rfl rfl (r_assign (f.eval rfl)) (fun a f => ?_)
 refine l_nil ?_
 refine k_seq ?_
 refine k_seq ?_
 refine k_region ?_
 refine l_op f rfl rfl rfl (r_move (f.eval rfl)) (fun a f => ?_)
 refine l_len Tryd.underlying27 f rfl rfl h0 (fun a f => ?_)
 refine l_op f rfl rfl rfl (r_move (f.eval rfl)) (fun a f => ?_)
 refine l_nil ?_
 obtain ⟨q_33, hl_34, hd⟩ := bind_some hd
 refine k_cut (fun a w => ∃ q_33' : Unit, q_33 = .inl q_33' ∧ ∃ (G_57 : GH), GLe G G_57 ∧ Fr a 19 [] ∧ Mem W G_57 w (H)) ?_ ?_
 ·refine k_block ?_
  refine k_loop (fun s_37 a w => ∃ x_40 : Int, x_40 = s_37 ∧ ∃ (G_39 : GH), GLe G G_39 ∧ Fr a 19 [(0, v0), (1, (.func (.func 60) #[] #[])), (7, (.int .i64 (x0.length : Int))), (8, (.int .i64 x_40))] ∧ Mem W G_39 w (H)) hl_34 ⟨_, rfl, _, (GLe.refl _), f.weak ⟨rfl, rfl, rfl, rfl, trivial⟩, m⟩ ?_
  clear hl_34 f m
  rintro s_37 o_38 hs_35 hq_36 a w ⟨x_40, rfl, G_39, hl_41, f, m⟩
  have h0 := RSl.mono (RSl.mono (RI.mono _)) _ _ _ _ hl_41 h0
  refine k_seq ?_
  refine k_region ?_
  refine l_op f rfl rfl rfl (r_int (f.eval rfl) (f.eval rfl) b_lss) (fun a f => ?_)
  refine l_nil ?_
  refine k_seq ?_
  rcases cond_some hs_35 with ⟨hc_59, hs_35⟩ | ⟨hc_59, hs_35⟩
  ·refine k_true f rfl hc_59 ?_
   refine k_skip ?_
   refine k_seq ?_
   refine k_block ?_
   refine k_seq ?_
   refine k_region ?_
   refine l_op f rfl rfl rfl (r_move (f.eval rfl)) (fun a f => ?_)
   refine l_op f rfl rfl rfl (r_assign (f.eval rfl)) (fun a f => ?_)
   refine l_nil ?_
   refine k_seq ?_
   refine k_region ?_
   refine l_op f rfl rfl rfl (r_move (f.eval rfl)) (fun a f => ?_)
   refine l_op f rfl rfl rfl (r_move (f.eval rfl)) (fun a f => ?_)
   refine l_op f rfl rfl rfl (r_move (f.eval rfl)) (fun a f => ?_)
   obtain ⟨e_60, he_61, hs_35⟩ := bind_some hs_35
   refine l_at T27 f rfl rfl rfl h0 he_61 (fun p_62 c_63 a g_64 h_65 f => ?_)
   refine l_loadAt m Pl31 f rfl rfl g_64 (fun a f => ?_)
   obtain ⟨y_66, hy_67, hs_35⟩ := bind_some hs_35
   refine l_resv0 f rfl rfl rfl Tryd.call60 (Wk.impl_BagsWidth_1 m h_65 hy_67) (fun v_71 G_68 Ho_72 w hl_69 m hQ_70 a f => ?_)
   obtain ⟨rfl, rfl⟩ := hQ_70
   have h0 := RSl.mono (RSl.mono (RI.mono _)) _ _ _ _ hl_69 h0
   have g_64 := At.mono hl_69 g_64
   have h_65 := RSl.mono (RI.mono _) _ _ _ _ hl_69 h_65
   have m : Mem W G_68 w (H) := m
   refine l_nil ?_
   rcases cond_some hs_35 with ⟨hc_73, hs_35⟩ | ⟨hc_73, hs_35⟩
   ·refine k_true f rfl hc_73 ?_
    refine k_seq ?_
    refine k_region ?_
    refine l_op f rfl rfl rfl (r_move (f.eval rfl)) (fun a f => ?_)
    refine l_op f rfl rfl rfl (r_assign (f.eval rfl)) (fun a f => ?_)
    refine l_nil ?_
    refine k_ret ?_
    obtain rfl := Option.some.inj hs_35
    obtain rfl := hq_36 _ rfl
    obtain rfl := Option.some.inj hd
    exact ⟨[(.int .i64 x_40)], ⟨f.get _ _ rfl, trivial⟩, f.defers, _, [], (GLe.trans hl_41 hl_69), m, rfl, rfl⟩
   ·refine k_false f rfl hc_73 ?_
    refine k_skip ?_
    refine k_region ?_
    refine l_op f rfl rfl rfl (r_int (f.eval rfl) (f.eval rfl) b_add) (fun a f => ?_)
    refine l_op f rfl rfl rfl (r_move (f.eval rfl)) (fun a f => ?_)
    refine l_nil ?_
    obtain rfl := Option.some.inj hs_35
    exact ⟨_, rfl, _, rfl, _, (GLe.trans hl_41 hl_69), f.weak ⟨rfl, rfl, rfl, rfl, trivial⟩, m⟩
  ·refine k_false f rfl hc_59 ?_
   refine k_exit rfl ?_
   obtain rfl := Option.some.inj hs_35
   obtain rfl := hq_36 _ rfl
   exact ⟨_, rfl, _, hl_41, f.weak trivial, m⟩
 ·rintro a w ⟨_, rfl, G_57, hl_58, f, m⟩
  refine k_seq ?_
  refine k_region ?_
  refine l_op f rfl rfl rfl (r_assign (f.eval rfl)) (fun a f => ?_)
  refine l_nil ?_
  refine k_ret ?_
  obtain rfl := Option.some.inj hd
  exact ⟨[(.int .i64 (-1))], ⟨f.get _ _ rfl, trivial⟩, f.defers, _, [], hl_58, m, rfl, rfl⟩

theorem Wk.slices_ContainsFunc_int64_int64__impl_BagsWidth_1 {W w : World} {G : GH} {H : List Itm} {v0 : Value} {x0 : (List (List Int))} (m : Mem W G w (H)) (h0 : RSl (RSl (RI .i64)) G v0 x0) {y : Bool} (hd : D.slices_ContainsFunc_int64_int64__impl_BagsWidth_1 x0 = some y) :
  Calls Tryd.prog 59 #[v0, (.func (.func 60) #[] #[])] w (Res W G H (fun _ Ho v => Ho = [] ∧ v = (.bool y))) := by
 refine calls_b (args := [v0, (.func (.func 60) #[] #[])]) (N := 9) [.tmp 4] Tryd.func59 rfl rfl (Nat.le_of_ble_eq_true rfl) rfl (fun a f => ?_)
 unfold D.slices_ContainsFunc_int64_int64__impl_BagsWidth_1 at hd
 refine k_seq ?_
 refine k_region ?_
 refine l_op f rfl rfl rfl (r_assign (f.eval rfl)) (fun a f => ?_)
 refine l_nil ?_
 refine k_seq ?_
 refine k_region ?_
 refine l_op f rfl rfl rfl (r_move (f.eval rfl)) (fun a f => ?_)
 refine l_op f rfl rfl rfl (r_move (f.eval rfl)) (fun a f => ?_)
 obtain ⟨y_1, hy_2, hd⟩ := bind_some hd
 refine l_res f rfl rfl Tryd.call104 (Wk.slices_IndexFunc_int64_int64__impl_BagsWidth_1 m h0 hy_2) (fun v_6 G_3 Ho_7 w hl_4 m hQ_5 a f => ?_)
 obtain ⟨rfl, rfl⟩ := hQ_5
 have h0 := RSl.mono (RSl.mono (RI.mono _)) _ _ _ _ hl_4 h0
 have m : Mem W G_3 w (H) := m
 refine l_op f rfl rfl rfl (r_int (f.eval rfl) (f.eval rfl) b_geq) (fun a f => ?_)
 refine l_op f rfl rfl rfl (r_assign (f.eval rfl)) (fun a f => ?_)
 refine l_nil ?_
 refine k_ret ?_
 obtain rfl := Option.some.inj hd
 exact ⟨[(.bool (decide ((0 : Int) ≤ y_1)))], ⟨f.get _ _ rfl, trivial⟩, f.defers, _, [], hl_4, m, rfl, rfl⟩

theorem Wk.impl_BagsWidth {W w : World} {G : GH} {H : List Itm} {v0 : Value} {x0 : (List (List Int))} (m : Mem W G w (H)) (h0 : RSl (RSl (RI .i64)) G v0 x0) {y : Int} (hd : D.impl_BagsWidth x0 = some y) :
  Calls Tryd.prog 14 #[v0] w (Res W G H (fun _ Ho v => Ho = [] ∧ v = (.int .i64 y))) := by
 refine calls_b (args := [v0]) (N := 7) [.tmp 2] Tryd.func14 rfl rfl (Nat.le_of_ble_eq_true rfl) rfl (fun a f => ?_)
 unfold D.impl_BagsWidth at hd
 refine k_seq ?_
 refine k_region ?_
 refine l_op f rfl rfl rfl (r_assign (f.eval rfl)) (fun a f => ?_)
 refine l_nil ?_
 refine k_seq ?_
 refine k_seq ?_
 refine k_region ?_
 refine l_op f rfl rfl rfl (r_move (f.eval rfl)) (fun a f => ?_)
 obtain ⟨y_1, hy_2, hd⟩ := bind_some hd
 refine l_res f rfl rfl Tryd.call59 (Wk.slices_ContainsFunc_int64_int64__impl_BagsWidth_1 m h0 hy_2) (fun v_6 G_3 Ho_7 w hl_4 m hQ_5 a f => ?_)
 obtain ⟨rfl, rfl⟩ := hQ_5
 have h0 := RSl.mono (RSl.mono (RI.mono _)) _ _ _ _ hl_4 h0
 have m : Mem W G_3 w (H) := m
 refine l_nil ?_
 rcases cond_some hd with ⟨hc_8, hd⟩ | ⟨hc_8, hd⟩
 ·refine k_true f rfl hc_8 ?_
  refine k_seq ?_
  refine k_region ?_
  refine l_op f rfl rfl rfl (r_assign (f.eval rfl)) (fun a f => ?_)
  refine l_nil ?_
  refine k_ret ?_
  obtain rfl := Option.some.inj hd
  exact ⟨[(.int .i64 (-1))], ⟨f.get _ _ rfl, trivial⟩, f.defers, _, [], hl_4, m, rfl, rfl⟩
 ·refine k_false f rfl hc_8 ?_
  refine k_skip ?_
  refine k_seq ?_
  refine k_region ?_
  refine l_op f rfl rfl rfl (r_move (f.eval rfl)) (fun a f => ?_)
  obtain ⟨y_9, hy_10, hd⟩ := bind_some hd
  refine l_res f rfl rfl Tryd.call61 (Wk.impl_largestBag m h0 hy_10) (fun v_14 G_11 Ho_15 w hl_12 m hQ_13 a f => ?_)
  obtain ⟨rfl, rfl⟩ := hQ_13
  have h0 := RSl.mono (RSl.mono (RI.mono _)) _ _ _ _ hl_12 h0
  have m : Mem W G_11 w (H) := m
  refine l_op f rfl rfl rfl (r_assign (f.eval rfl)) (fun a f => ?_)
  refine l_nil ?_
  refine k_ret ?_
  obtain rfl := Option.some.inj hd
  exact ⟨[(.int .i64 y_9)], ⟨f.get _ _ rfl, trivial⟩, f.defers, _, [], (GLe.trans hl_4 hl_12), m, rfl, rfl⟩

theorem Wk.impl_OrderOfBags {W w : World} {G : GH} {H : List Itm} {v0_0 : Value} {v1 : Value} {x0_0 : (List (List Int))} {x1 : (List (List Int))} (hW : TabW W) (m : Mem W G w (H)) (h0_0 : RSl (RSl (RI .i64)) G v0_0 x0_0) (h1 : RSl (RSl (RI .i64)) G v1 x1) {y : ((List Int))} (hd : D.impl_OrderOfBags x0_0 x1 = some y) :
  Calls Tryd.prog 15 #[(.agg #[v0_0]), v1] w (Res W G H (fun G' Ho v => ∃ r0 : Value, ∃ i0 : Itm, Ho = [i0] ∧ r0 = v ∧ Ow (RI .i64) 2 G' i0 r0 y)) := by
 refine calls_b (args := [(.agg #[v0_0]), v1]) (N := 33) [.tmp 4] Tryd.func15 rfl rfl (Nat.le_of_ble_eq_true rfl) rfl (fun a f => ?_)
 unfold D.impl_OrderOfBags at hd
 refine k_seq ?_
 refine k_region ?_
 refine l_box (cs := [v0_0]) m f rfl rfl rfl (fun b_2 w a m f => ?_)
 refine l_op f rfl rfl rfl (r_assign (f.eval rfl)) (fun a f => ?_)
 refine l_nil ?_
 refine k_seq ?_
 refine k_seq ?_
 refine k_region ?_
 refine l_boxAgg 0 0 (ds := [v0_0]) m Ag29 f rfl rfl rfl rfl rfl (fun a f => ?_)
 refine l_op f rfl rfl rfl (r_move (f.eval rfl)) (fun a f => ?_)
 obtain ⟨y_3, hy_4, hd⟩ := bind_some hd
 refine l_res f rfl rfl Tryd.call13 (Wk.impl_PathBagsOk m h0_0 h1 hy_4) (fun v_8 G_5 Ho_9 w hl_6 m hQ_7 a f => ?_)
 obtain ⟨rfl, rfl⟩ := hQ_7
 have h0_0 := RSl.mono (RSl.mono (RI.mono _)) _ _ _ _ hl_6 h0_0
 have h1 := RSl.mono (RSl.mono (RI.mono _)) _ _ _ _ hl_6 h1
 have m : Mem W G_5 w (Itm.box b_2 29 [v0_0] :: H) := m
 refine l_op f rfl rfl rfl (r_not (f.eval rfl)) (fun a f => ?_)
 refine l_nil ?_
 rcases cond_some hd with ⟨hc_10, hd⟩ | ⟨hc_10, hd⟩
 ·refine k_true f rfl hc_10 ?_
  refine k_seq ?_
  refine k_region ?_
  refine l_op f rfl rfl rfl (r_assign (f.eval rfl)) (fun a f => ?_)
  refine l_nil ?_
  refine k_ret ?_
  obtain ⟨it_11, m, o_12⟩ := Ow.nil (RI .i64) 2 m
  have m : Mem W G_5 w (it_11 :: Itm.box b_2 29 [v0_0] :: H) := m
  have m : Mem W G_5 w (it_11 :: H) := m.eraseAt 1
  obtain rfl := Option.some.inj hd
  exact ⟨[(.slice none 0 0)], ⟨f.get _ _ rfl, trivial⟩, f.defers, _, [it_11], hl_6, m, _, _, rfl, rfl, o_12⟩
 ·refine k_false f rfl hc_10 ?_
  refine k_skip ?_
  refine k_seq ?_
  refine k_region ?_
  refine l_slit (R := (RI .i64)) (xs := ([] : List Int)) (RI.one _) m T63 f rfl rfl rfl (by decide) (All2.nil _) (fun it_14 v_15 w a m o_16 f => ?_)
  refine l_op f rfl rfl rfl (r_assign (f.eval rfl)) (fun a f => ?_)
  refine l_op f rfl rfl rfl (r_assign (f.eval rfl)) (fun a f => ?_)
  refine l_nil ?_
  refine k_seq ?_
  refine k_seq ?_
  refine k_region ?_
  refine l_op f rfl rfl rfl (r_move (f.eval rfl)) (fun a f => ?_)
  obtain ⟨y_18, hy_19, hd⟩ := bind_some hd
  refine l_res f rfl rfl Tryd.call57 (Wk.impl_bagMasks m h1 hy_19) (fun v_23 G_20 Ho_24 w hl_21 m hQ_22 a f => ?_)
  obtain ⟨v_25, it_26, rfl, rfl, o_27⟩ := hQ_22
  have h0_0 := RSl.mono (RSl.mono (RI.mono _)) _ _ _ _ hl_21 h0_0
  have h1 := RSl.mono (RSl.mono (RI.mono _)) _ _ _ _ hl_21 h1
  have o_16 := Ow.mono (RI.mono _) hl_21 o_16
  have m : Mem W G_20 w (it_26 :: it_14 :: Itm.box b_2 29 [v0_0] :: H) := m
  refine l_own_len 0 m o_27 rfl Tryd.underlying59 f rfl rfl (fun a f => ?_)
  refine l_op f rfl rfl rfl (r_move (f.eval rfl)) (fun a f => ?_)
  refine l_nil ?_
  obtain ⟨q_85, hl_86, hd⟩ := bind_some hd
  refine k_cut (fun a w => ∃ l_125 : List Int, l_125 = q_85 ∧ ∃ (G_124 : GH) (v_126 : Value) (it_127 : Itm), GLe G_20 G_124 ∧ Fr a 33 [(5, v_126)] ∧ Mem W G_124 w (it_127 :: H) ∧ Ow (RI .i64) 3 G_124 it_127 v_126 l_125) ?_ ?_
  ·refine k_block ?_
   have m : Mem W G_20 w (it_14 :: it_26 :: Itm.box b_2 29 [v0_0] :: H) := m.front 1 rfl
   have m : Mem W G_20 w (it_14 :: it_26 :: H) := m.eraseAt 2
   refine k_loop (fun s_89 a w => ∃ l_92 : List Int, ∃ x_97 : Int, ∃ x_98 : Int, (l_92, x_97, x_98) = s_89 ∧ ∃ (G_91 : GH) (v_93 : Value) (it_94 : Itm), GLe G_20 G_91 ∧ Fr a 33 [(5, v_93), (6, (.int .u32 x_97)), (15, v_25), (16, (.int .i64 (y_18.length : Int))), (17, (.int .i64 x_98))] ∧ Mem W G_91 w (it_94 :: it_26 :: H) ∧ Ow (RI .i64) 3 G_91 it_94 v_93 l_92) hl_86 ⟨_, _, _, rfl, _, v_15, it_14, (GLe.refl _), f.weak ⟨rfl, rfl, rfl, rfl, rfl, trivial⟩, m, o_16⟩ ?_
   clear hl_86 f m
   rintro s_89 o_90 hs_87 hq_88 a w ⟨l_92, x_97, x_98, rfl, G_91, v_93, it_94, hl_99, f, m, o_95⟩
   have o_27 := Ow.mono (RI.mono _) hl_99 o_27
   refine k_seq ?_
   refine k_region ?_
   refine l_op f rfl rfl rfl (r_int (f.eval rfl) (f.eval rfl) b_lss) (fun a f => ?_)
   refine l_nil ?_
   refine k_seq ?_
   rcases cond_some hs_87 with ⟨hc_131, hs_87⟩ | ⟨hc_131, hs_87⟩
   ·refine k_true f rfl hc_131 ?_
    refine k_skip ?_
    refine k_seq ?_
    refine k_block ?_
    refine k_seq ?_
    refine k_region ?_
    obtain ⟨e_132, he_133, hs_87⟩ := bind_some hs_87
    refine l_own_at 1 m o_27 rfl T59 f rfl rfl rfl he_133 (fun p_134 a ha_135 f => ?_)
    refine l_own_load 1 m o_27 rfl Pl66 f rfl rfl ha_135 he_133 (fun c_136 a h_137 f => ?_)
    subst h_137
    refine l_op f rfl rfl rfl (r_assign (f.eval rfl)) (fun a f => ?_)
    refine l_nil ?_
    refine k_seq ?_
    refine k_region ?_
    refine l_op f rfl rfl rfl (r_move (f.eval rfl)) (fun a f => ?_)
    refine l_op f rfl rfl rfl (r_move (f.eval rfl)) (fun a f => ?_)
    refine l_op f rfl rfl rfl (r_move (f.eval rfl)) (fun a f => ?_)
    refine l_op f rfl rfl rfl (r_int (f.eval rfl) (f.eval rfl) b_andNot) (fun a f => ?_)
    obtain ⟨y_138, hy_139, hs_87⟩ := bind_some hs_87
    refine l_res f rfl rfl Tryd.call62 (Wk.impl_vset_list hW m  hy_139) (fun v_143 G_140 Ho_144 w hl_141 m hQ_142 a f => ?_)
    obtain ⟨v_145, it_146, rfl, rfl, o_147⟩ := hQ_142
    have o_95 := Ow.mono (RI.mono _) hl_141 o_95
    have o_27 := Ow.mono (RI.mono _) hl_141 o_27
    have m : Mem W G_140 w (it_146 :: it_94 :: it_26 :: H) := m
    obtain ⟨l_149, hx_150, hs_87⟩ := bind_some hs_87
    refine l_append (RI.one _) 1 m o_95 rfl T63 rfl (by decide) f rfl rfl rfl (Ow.src (j := 0) o_147 m rfl) hx_150 (fun it_151 v_152 w a m o_153 f => ?_)
    have m : Mem W G_140 w (it_146 :: it_151 :: it_26 :: H) := m
    refine l_op f rfl rfl rfl (r_assign (f.eval rfl)) (fun a f => ?_)
    refine l_nil ?_
    refine k_region ?_
    refine l_op f rfl rfl rfl (r_move (f.eval rfl)) (fun a f => ?_)
    refine l_op f rfl rfl rfl (r_move (f.eval rfl)) (fun a f => ?_)
    refine l_op f rfl rfl rfl (r_int (f.eval rfl) (f.eval rfl) b_or) (fun a f => ?_)
    refine l_op f rfl rfl rfl (r_assign (f.eval rfl)) (fun a f => ?_)
    refine l_nil ?_
    refine k_region ?_
    refine l_op f rfl rfl rfl (r_int (f.eval rfl) (f.eval rfl) b_add) (fun a f => ?_)
    refine l_op f rfl rfl rfl (r_move (f.eval rfl)) (fun a f => ?_)
    refine l_nil ?_
    have m : Mem W G_140 w (it_26 :: it_146 :: it_151 :: H) := m.front 2 rfl
    have m : Mem W G_140 w (it_151 :: it_26 :: it_146 :: H) := m.front 2 rfl
    have m : Mem W G_140 w (it_151 :: it_26 :: H) := m.eraseAt 2
    obtain rfl := Option.some.inj hs_87
    exact ⟨_, rfl, _, _, _, rfl, _, v_152, it_151, (GLe.trans hl_99 hl_141), f.weak ⟨rfl, rfl, rfl, rfl, rfl, trivial⟩, m, o_153⟩
   ·refine k_false f rfl hc_131 ?_
    refine k_exit rfl ?_
    have m : Mem W G_91 w (it_94 :: H) := m.eraseAt 1
    obtain rfl := Option.some.inj hs_87
    obtain rfl := hq_88 _ rfl
    exact ⟨_, rfl, _, v_93, it_94, hl_99, f.weak ⟨rfl, trivial⟩, m, o_95⟩
  ·rintro a w ⟨l_125, rfl, G_124, v_126, it_127, hl_130, f, m, o_128⟩
   refine k_seq ?_
   refine k_region ?_
   refine l_op f rfl rfl rfl (r_move (f.eval rfl)) (fun a f => ?_)
   obtain ⟨y_155, hy_156, hd⟩ := bind_some hd
   refine l_res f rfl rfl Tryd.call63 (Ow.lendCall (RI.mono _) 0 o_128 m rfl (fun G_157 hl_158 m h_159 => Wk.impl_wide m h_159 hy_156) (fun _ G' _ _ ⟨a0, a1, e1, e2, o0⟩ => ⟨a0, a1, e1, e2, Ow.free (RI.free _) G' o0⟩)) (fun v_163 G_160 Ho_164 w hl_161 m hQ_162 a f => ?_)
   obtain ⟨v_165, it_166, rfl, rfl, o_167⟩ := hQ_162
   have o_128 := Ow.mono (RI.mono _) hl_161 o_128
   have m : Mem W G_160 w (it_166 :: it_127 :: H) := m
   refine l_op f rfl rfl rfl (r_assign (f.eval rfl)) (fun a f => ?_)
   refine l_nil ?_
   refine k_ret ?_
   have m : Mem W G_160 w (it_166 :: H) := m.eraseAt 1
   obtain rfl := Option.some.inj hd
   exact ⟨[v_165], ⟨f.get _ _ rfl, trivial⟩, f.defers, _, [it_166], (GLe.trans hl_6 (GLe.trans hl_21 (GLe.trans hl_130 hl_161))), m, _, _, rfl, rfl, o_167⟩

theorem Wk.spec_OpenOf {W w : World} {G : GH} {H : List Itm} {v0_0 : Value} {v1 : Value} {x0_0 : (List (List Int))} {x1 : (List Int)} (m : Mem W G w (H)) (h0_0 : RSl (RSl (RI .i64)) G v0_0 x0_0) (h1 : RSl (RI .i64) G v1 x1) {y : ((List Int))} (hd : D.spec_OpenOf x0_0 x1 = some y) :
  Calls Tryd.prog 18 #[(.agg #[v0_0]), v1] w (Res W G H (fun G' Ho v => ∃ r0 : Value, Ho = [] ∧ r0 = v ∧ RSl (RI .i64) G' r0 y)) := by
 refine calls_b (args := [(.agg #[v0_0]), v1]) (N := 18) [.tmp 4] Tryd.func18 rfl rfl (Nat.le_of_ble_eq_true rfl) rfl (fun a f => ?_)
 unfold D.spec_OpenOf at hd
 refine k_seq ?_
 refine k_region ?_
 refine l_box (cs := [v0_0]) m f rfl rfl rfl (fun b_2 w a m f => ?_)
 refine l_op f rfl rfl rfl (r_assign (f.eval rfl)) (fun a f => ?_)
 refine l_nil ?_
 refine k_seq ?_
 refine k_seq ?_
 refine k_region ?_
 refine l_boxAgg 0 0 (ds := [v0_0]) m Ag29 f rfl rfl rfl rfl rfl (fun a f => ?_)
 obtain ⟨y_3, hy_4, hd⟩ := bind_some hd
 refine l_res f rfl rfl Tryd.call51 (Wk.spec_GraphOk m h0_0 hy_4) (fun v_8 G_5 Ho_9 w hl_6 m hQ_7 a f => ?_)
 obtain ⟨rfl, rfl⟩ := hQ_7
 have h0_0 := RSl.mono (RSl.mono (RI.mono _)) _ _ _ _ hl_6 h0_0
 have h1 := RSl.mono (RI.mono _) _ _ _ _ hl_6 h1
 have m : Mem W G_5 w (Itm.box b_2 29 [v0_0] :: H) := m
 refine l_op f rfl rfl rfl (r_not (f.eval rfl)) (fun a f => ?_)
 refine l_op f rfl rfl rfl (r_move (f.eval rfl)) (fun a f => ?_)
 obtain ⟨b_27, hj_28, hd⟩ := bind_some hd
 refine l_cut 5 (fun a w => ∃ G_25, GLe G_5 G_25 ∧ Mem W G_25 w (Itm.box b_2 29 [v0_0] :: H) ∧ Fr a 18 [(0, (.agg #[v0_0])), (1, v1), (2, (.pointer (some ⟨b_2, 0, none⟩))), (5, (.agg #[v0_0])), (6, (.bool y_3)), (7, (.bool (!y_3))), (8, (.bool (!y_3))), (13, (.bool b_27))]) ?_ ?_
 ·rcases cond_some hj_28 with ⟨hc_10, hj_28⟩ | ⟨hc_10, hj_28⟩
  ·refine l_not' f rfl rfl rfl hc_10 (fun a f => ?_)
   refine l_not' f rfl rfl rfl hc_10 (fun a f => ?_)
   refine l_not' f rfl rfl rfl hc_10 (fun a f => ?_)
   refine l_not' f rfl rfl rfl hc_10 (fun a f => ?_)
   refine l_op f rfl rfl rfl (r_pickT (f.eval rfl) hc_10 (f.eval rfl)) (fun a f => ?_)
   obtain rfl := Option.some.inj hj_28
   exact ⟨_, (GLe.refl _), m, f.weak ⟨rfl, rfl, rfl, rfl, rfl, rfl, rfl, rfl, trivial⟩⟩
  ·refine l_run f rfl rfl hc_10 ?_
   refine l_boxAgg 0 0 (ds := [v0_0]) m Ag29 f rfl rfl rfl rfl rfl (fun a f => ?_)
   refine l_run f rfl rfl hc_10 ?_
   refine l_op f rfl rfl rfl (r_move (f.eval rfl)) (fun a f => ?_)
   refine l_run f rfl rfl hc_10 ?_
   obtain ⟨y_29, hy_30, hj_28⟩ := bind_some hj_28
   refine l_res f rfl rfl Tryd.call52 (Wk.spec_SetOk m h0_0 h1 hy_30) (fun v_34 G_31 Ho_35 w hl_32 m hQ_33 a f => ?_)
   obtain ⟨rfl, rfl⟩ := hQ_33
   have h0_0 := RSl.mono (RSl.mono (RI.mono _)) _ _ _ _ hl_32 h0_0
   have h1 := RSl.mono (RI.mono _) _ _ _ _ hl_32 h1
   have m : Mem W G_31 w (Itm.box b_2 29 [v0_0] :: H) := m
   refine l_run f rfl rfl hc_10 ?_
   refine l_op f rfl rfl rfl (r_not (f.eval rfl)) (fun a f => ?_)
   refine l_op f rfl rfl rfl (r_pickF (f.eval rfl) hc_10 (f.eval rfl)) (fun a f => ?_)
   obtain rfl := Option.some.inj hj_28
   exact ⟨_, hl_32, m, f.weak ⟨rfl, rfl, rfl, rfl, rfl, rfl, rfl, rfl, trivial⟩⟩
 ·rintro a w ⟨G_25, hl_26, m, f⟩
  have h0_0 := RSl.mono (RSl.mono (RI.mono _)) _ _ _ _ hl_26 h0_0
  have h1 := RSl.mono (RI.mono _) _ _ _ _ hl_26 h1
  refine l_nil ?_
  rcases cond_some hd with ⟨hc_36, hd⟩ | ⟨hc_36, hd⟩
  ·refine k_true f rfl hc_36 ?_
   refine k_seq ?_
   refine k_region ?_
   refine l_slit (R := (RI .i64)) (xs := ([] : List Int)) (RI.one _) m T31 f rfl rfl rfl (by decide) (All2.nil _) (fun it_37 v_38 w a m o_39 f => ?_)
   refine l_op f rfl rfl rfl (r_assign (f.eval rfl)) (fun a f => ?_)
   refine l_nil ?_
   refine k_ret ?_
   obtain ⟨G_41, hl_42, m, h_43⟩ := Ow.stamp (RI.mono _) o_39 m
   have h0_0 := RSl.mono (RSl.mono (RI.mono _)) _ _ _ _ hl_42 h0_0
   have h1 := RSl.mono (RI.mono _) _ _ _ _ hl_42 h1
   have m : Mem W G_41 w (Itm.box b_2 29 [v0_0] :: H) := m
   have m : Mem W G_41 w H := Mem.drop (H' := [Itm.box b_2 29 [v0_0]]) m
   obtain rfl := Option.some.inj hd
   exact ⟨[v_38], ⟨f.get _ _ rfl, trivial⟩, f.defers, _, [], (GLe.trans hl_6 (GLe.trans hl_26 hl_42)), m, _, rfl, rfl, h_43⟩
  ·refine k_false f rfl hc_36 ?_
   refine k_skip ?_
   refine k_seq ?_
   refine k_region ?_
   refine l_boxAgg 0 0 (ds := [v0_0]) m Ag29 f rfl rfl rfl rfl rfl (fun a f => ?_)
   refine l_op f rfl rfl rfl (r_move (f.eval rfl)) (fun a f => ?_)
   obtain ⟨y_44, hy_45, hd⟩ := bind_some hd
   refine l_res f rfl rfl Tryd.call66 (Wk.spec_l12Open m h0_0 h1 hy_45) (fun v_49 G_46 Ho_50 w hl_47 m hQ_48 a f => ?_)
   obtain ⟨v_51, rfl, rfl, h_52⟩ := hQ_48
   have h0_0 := RSl.mono (RSl.mono (RI.mono _)) _ _ _ _ hl_47 h0_0
   have h1 := RSl.mono (RI.mono _) _ _ _ _ hl_47 h1
   have m : Mem W G_46 w (Itm.box b_2 29 [v0_0] :: H) := m
   refine l_op f rfl rfl rfl (r_assign (f.eval rfl)) (fun a f => ?_)
   refine l_nil ?_
   refine k_ret ?_
   have m : Mem W G_46 w H := Mem.drop (H' := [Itm.box b_2 29 [v0_0]]) m
   obtain rfl := Option.some.inj hd
   exact ⟨[v_51], ⟨f.get _ _ rfl, trivial⟩, f.defers, _, [], (GLe.trans hl_6 (GLe.trans hl_26 hl_47)), m, _, rfl, rfl, h_52⟩

theorem Wk.laws_FnPathBags {W w : World} {G : GH} {H : List Itm} {v0 : Value} {x0 : (List Int)} (hW : TabW W) (m : Mem W G w (H)) (h0 : RSl (RI .u8) G v0 x0) {y : Bool} (hd : D.laws_FnPathBags x0 = some y) :
  Calls Tryd.prog 3 #[v0] w (Res W G H (fun _ Ho v => Ho = [] ∧ v = (.bool y))) := by
 refine calls_b (args := [v0]) (N := 64) [.tmp 2] Tryd.func3 rfl rfl (Nat.le_of_ble_eq_true rfl) rfl (fun a f => ?_)
 unfold D.laws_FnPathBags at hd
 refine k_seq ?_
 refine k_region ?_
 refine l_op f rfl rfl rfl (r_assign (f.eval rfl)) (fun a f => ?_)
 refine l_nil ?_
 refine k_seq ?_
 refine k_seq ?_
 refine k_region ?_
 refine l_op f rfl rfl rfl (r_move (f.eval rfl)) (fun a f => ?_)
 obtain ⟨y_1, hy_2, hd⟩ := bind_some hd
 refine l_res f rfl rfl Tryd.call6 (Wk.laws_big m h0 hy_2) (fun v_6 G_3 Ho_7 w hl_4 m hQ_5 a f => ?_)
 obtain ⟨rfl, rfl⟩ := hQ_5
 have h0 := RSl.mono (RI.mono _) _ _ _ _ hl_4 h0
 have m : Mem W G_3 w (H) := m
 refine l_nil ?_
 rcases cond_some hd with ⟨hc_8, hd⟩ | ⟨hc_8, hd⟩
 ·refine k_true f rfl hc_8 ?_
  refine k_seq ?_
  refine k_region ?_
  refine l_op f rfl rfl rfl (r_assign (f.eval rfl)) (fun a f => ?_)
  refine l_nil ?_
  refine k_ret ?_
  obtain rfl := Option.some.inj hd
  exact ⟨[(.bool true)], ⟨f.get _ _ rfl, trivial⟩, f.defers, _, [], hl_4, m, rfl, rfl⟩
 ·refine k_false f rfl hc_8 ?_
  refine k_skip ?_
  refine k_seq ?_
  refine k_region ?_
  refine l_op f rfl rfl rfl (r_move (f.eval rfl)) (fun a f => ?_)
  obtain ⟨y_9, hy_10, hd⟩ := bind_some hd
  refine l_res f rfl rfl Tryd.call7 (Wk.laws_roll m h0 hy_10) (fun v_14 G_11 Ho_15 w hl_12 m hQ_13 a f => ?_)
  obtain ⟨v_16, b_18, rfl, rfl, h_17⟩ := hQ_13
  have h0 := RSl.mono (RI.mono _) _ _ _ _ hl_12 h0
  have m : Mem W G_11 w (Itm.box b_18 55 [v_16, (.int .i64 y_9.2.1), (.int .u64 y_9.2.2)] :: H) := m
  refine l_op f rfl rfl rfl (r_assign (f.eval rfl)) (fun a f => ?_)
  refine l_nil ?_
  refine k_seq ?_
  refine k_region ?_
  refine l_op f rfl rfl rfl (r_move (f.eval rfl)) (fun a f => ?_)
  obtain ⟨y_20, hy_21, hd⟩ := bind_some hd
  refine l_res f rfl rfl Tryd.call8 (Wk.laws_w9Graph m h_17 hy_21) (fun v_25 G_22 Ho_26 w hl_23 m hQ_24 a f => ?_)
  obtain ⟨v_27, it_28, v_31, rfl, rfl, o_29, h_32⟩ := hQ_24
  have h0 := RSl.mono (RI.mono _) _ _ _ _ hl_23 h0
  have m : Mem W G_22 w (it_28 :: Itm.box b_18 55 [v_31, (.int .i64 y_20.2.2.1), (.int .u64 y_20.2.2.2)] :: H) := m
  refine l_alloc (cs := [(.slice none 0 0)]) Tryd.zeroValue29 m f rfl rfl (fun b_34 w a m f => ?_)
  refine l_boxStore 0 0 (ds := [v_27]) m Tryd.sizeOf29 f rfl rfl rfl (ones_cons (Ow.one1 1 m o_29 rfl) ones_nil) rfl (Nat.le_of_ble_eq_true rfl) rfl (fun w m => ?_)
  have m : Mem W G_22 w (Itm.box b_34 29 [v_27] :: it_28 :: Itm.box b_18 55 [v_31, (.int .i64 y_20.2.2.1), (.int .u64 y_20.2.2.2)] :: H) := m
  refine l_nil ?_
  refine k_seq ?_
  refine k_region ?_
  refine l_op f rfl rfl rfl (r_move (f.eval rfl)) (fun a f => ?_)
  refine l_fieldAddr Tryd.underlying29 rfl Tryd.sizeOf27 (by decide) f rfl rfl (fun a f => ?_)
  refine l_boxCell 0 0 m Pl27 f rfl rfl rfl rfl (fun a f => ?_)
  refine l_own_len 1 m o_29 rfl Tryd.underlying27 f rfl rfl (fun a f => ?_)
  have m : Mem W G_22 w (Itm.box b_18 55 [v_31, (.int .i64 y_20.2.2.1), (.int .u64 y_20.2.2.2)] :: Itm.box b_34 29 [v_27] :: it_28 :: H) := m.front 2 rfl
  obtain ⟨y_35, hy_36, hd⟩ := bind_some hd
  refine l_res f rfl rfl Tryd.call9 (Wk.laws_w9Order m h_32 hy_36) (fun v_40 G_37 Ho_41 w hl_38 m hQ_39 a f => ?_)
  obtain ⟨v_42, it_43, v_46, rfl, rfl, o_44, h_47⟩ := hQ_39
  have h0 := RSl.mono (RI.mono _) _ _ _ _ hl_38 h0
  have o_29 := Ow.mono (RSl.mono (RI.mono _)) hl_38 o_29
  have m : Mem W G_37 w (it_43 :: Itm.box b_18 55 [v_46, (.int .i64 y_35.2.2.1), (.int .u64 y_35.2.2.2)] :: Itm.box b_34 29 [v_27] :: it_28 :: H) := m
  refine l_op f rfl rfl rfl (r_assign (f.eval rfl)) (fun a f => ?_)
  refine l_nil ?_
  refine k_seq ?_
  refine k_region ?_
  refine l_boxAgg 2 0 (ds := [v_27]) m Ag29 f rfl rfl rfl rfl rfl (fun a f => ?_)
  refine l_op f rfl rfl rfl (r_move (f.eval rfl)) (fun a f => ?_)
  obtain ⟨y_48, hy_49, hd⟩ := bind_some hd
  refine l_res f rfl rfl Tryd.call10 (Ow.lendCall (RSl.mono (RI.mono _)) 3 o_29 m rfl (fun G_50 hl_51 m h_52 => (Ow.lendCall (RI.mono _) 0 (Ow.mono (RI.mono _) hl_51 o_44) m rfl (fun G_53 hl_54 m h_55 => Wk.impl_PathBags hW m (RSl.mono (RSl.mono (RI.mono _)) _ _ _ _ hl_54 h_52) h_55 hy_49) (fun _ G' _ _ ⟨a0, a1, e1, e2, o0⟩ => ⟨a0, a1, e1, e2, Ow2.free (RI.free _) G' o0⟩))) (fun _ G' _ _ ⟨a0, a1, e1, e2, o0⟩ => ⟨a0, a1, e1, e2, Ow2.free (RI.free _) G' o0⟩)) (fun v_59 G_56 Ho_60 w hl_57 m hQ_58 a f => ?_)
  obtain ⟨v_61, it_62, rfl, rfl, o_63⟩ := hQ_58
  have h0 := RSl.mono (RI.mono _) _ _ _ _ hl_57 h0
  have o_44 := Ow.mono (RI.mono _) hl_57 o_44
  have h_47 := RSl.mono (RI.mono _) _ _ _ _ hl_57 h_47
  have o_29 := Ow.mono (RSl.mono (RI.mono _)) hl_57 o_29
  have m : Mem W G_56 w (it_62 :: it_43 :: Itm.box b_18 55 [v_46, (.int .i64 y_35.2.2.1), (.int .u64 y_35.2.2.2)] :: Itm.box b_34 29 [v_27] :: it_28 :: H) := m
  refine l_op f rfl rfl rfl (r_assign (f.eval rfl)) (fun a f => ?_)
  refine l_nil ?_
  refine k_seq ?_
  refine k_region ?_
  refine l_boxAgg 3 0 (ds := [v_27]) m Ag29 f rfl rfl rfl rfl rfl (fun a f => ?_)
  refine l_op f rfl rfl rfl (r_move (f.eval rfl)) (fun a f => ?_)
  obtain ⟨y_65, hy_66, hd⟩ := bind_some hd
  refine l_res f rfl rfl Tryd.call11 (Ow.lendCall (RSl.mono (RI.mono _)) 4 o_29 m rfl (fun G_67 hl_68 m h_69 => (Ow.lendCall (RI.mono _) 1 (Ow.mono (RI.mono _) hl_68 o_44) m rfl (fun G_70 hl_71 m h_72 => Wk.impl_Separation hW m (RSl.mono (RSl.mono (RI.mono _)) _ _ _ _ hl_71 h_69) h_72 hy_66) (fun _ _ _ _ h => h))) (fun _ _ _ _ h => h)) (fun v_76 G_73 Ho_77 w hl_74 m hQ_75 a f => ?_)
  obtain ⟨rfl, rfl⟩ := hQ_75
  have h0 := RSl.mono (RI.mono _) _ _ _ _ hl_74 h0
  have o_63 := Ow2.mono (RI.mono _) hl_74 o_63
  have o_44 := Ow.mono (RI.mono _) hl_74 o_44
  have h_47 := RSl.mono (RI.mono _) _ _ _ _ hl_74 h_47
  have o_29 := Ow.mono (RSl.mono (RI.mono _)) hl_74 o_29
  have m : Mem W G_73 w (it_62 :: it_43 :: Itm.box b_18 55 [v_46, (.int .i64 y_35.2.2.1), (.int .u64 y_35.2.2.2)] :: Itm.box b_34 29 [v_27] :: it_28 :: H) := m
  refine l_op f rfl rfl rfl (r_assign (f.eval rfl)) (fun a f => ?_)
  refine l_nil ?_
  refine k_seq ?_
  refine k_seq ?_
  refine k_region ?_
  refine l_boxAgg 3 0 (ds := [v_27]) m Ag29 f rfl rfl rfl rfl rfl (fun a f => ?_)
  refine l_op f rfl rfl rfl (r_move (f.eval rfl)) (fun a f => ?_)
  obtain ⟨y_78, hy_79, hd⟩ := bind_some hd
  refine l_res f rfl rfl Tryd.call12 (Ow.lendCall (RSl.mono (RI.mono _)) 4 o_29 m rfl (fun G_80 hl_81 m h_82 => (Ow2.lendCall (RI.mono _) 0 (Ow2.mono (RI.mono _) hl_81 o_63) m rfl (fun G_83 hl_84 m h_85 => Wk.spec_PathBagsOk m (RSl.mono (RSl.mono (RI.mono _)) _ _ _ _ hl_84 h_82) h_85 hy_79) (fun _ _ _ _ h => h))) (fun _ _ _ _ h => h)) (fun v_89 G_86 Ho_90 w hl_87 m hQ_88 a f => ?_)
  obtain ⟨rfl, rfl⟩ := hQ_88
  have h0 := RSl.mono (RI.mono _) _ _ _ _ hl_87 h0
  have o_63 := Ow2.mono (RI.mono _) hl_87 o_63
  have o_44 := Ow.mono (RI.mono _) hl_87 o_44
  have h_47 := RSl.mono (RI.mono _) _ _ _ _ hl_87 h_47
  have o_29 := Ow.mono (RSl.mono (RI.mono _)) hl_87 o_29
  have m : Mem W G_86 w (it_62 :: it_43 :: Itm.box b_18 55 [v_46, (.int .i64 y_35.2.2.1), (.int .u64 y_35.2.2.2)] :: Itm.box b_34 29 [v_27] :: it_28 :: H) := m
  refine l_op f rfl rfl rfl (r_not (f.eval rfl)) (fun a f => ?_)
  refine l_op f rfl rfl rfl (r_move (f.eval rfl)) (fun a f => ?_)
  obtain ⟨b_120, hj_121, hd⟩ := bind_some hd
  refine l_cut 5 (fun a w => ∃ G_118, GLe G_86 G_118 ∧ Mem W G_118 w (it_62 :: it_43 :: Itm.box b_18 55 [v_46, (.int .i64 y_35.2.2.1), (.int .u64 y_35.2.2.2)] :: Itm.box b_34 29 [v_27] :: it_28 :: H) ∧ Fr a 64 [(0, v0), (3, (.pointer (some ⟨b_18, 0, none⟩))), (4, (.pointer (some ⟨b_34, 0, none⟩))), (5, v_42), (6, v_61), (7, (.int .i64 y_65)), (26, (.agg #[v_27])), (27, v_61), (28, (.bool y_78)), (29, (.bool (!y_78))), (30, (.bool (!y_78))), (35, (.bool b_120))]) ?_ ?_
  ·rcases cond_some hj_121 with ⟨hc_91, hj_121⟩ | ⟨hc_91, hj_121⟩
   ·refine l_not' f rfl rfl rfl hc_91 (fun a f => ?_)
    refine l_not' f rfl rfl rfl hc_91 (fun a f => ?_)
    refine l_not' f rfl rfl rfl hc_91 (fun a f => ?_)
    refine l_not' f rfl rfl rfl hc_91 (fun a f => ?_)
    refine l_op f rfl rfl rfl (r_pickT (f.eval rfl) hc_91 (f.eval rfl)) (fun a f => ?_)
    obtain rfl := Option.some.inj hj_121
    have m : Mem W G_86 w (it_28 :: it_62 :: it_43 :: Itm.box b_18 55 [v_46, (.int .i64 y_35.2.2.1), (.int .u64 y_35.2.2.2)] :: Itm.box b_34 29 [v_27] :: H) := m.front 4 rfl
    have m : Mem W G_86 w (Itm.box b_34 29 [v_27] :: it_28 :: it_62 :: it_43 :: Itm.box b_18 55 [v_46, (.int .i64 y_35.2.2.1), (.int .u64 y_35.2.2.2)] :: H) := m.front 4 rfl
    have m : Mem W G_86 w (Itm.box b_18 55 [v_46, (.int .i64 y_35.2.2.1), (.int .u64 y_35.2.2.2)] :: Itm.box b_34 29 [v_27] :: it_28 :: it_62 :: it_43 :: H) := m.front 4 rfl
    have m : Mem W G_86 w (it_43 :: Itm.box b_18 55 [v_46, (.int .i64 y_35.2.2.1), (.int .u64 y_35.2.2.2)] :: Itm.box b_34 29 [v_27] :: it_28 :: it_62 :: H) := m.front 4 rfl
    have m : Mem W G_86 w (it_62 :: it_43 :: Itm.box b_18 55 [v_46, (.int .i64 y_35.2.2.1), (.int .u64 y_35.2.2.2)] :: Itm.box b_34 29 [v_27] :: it_28 :: H) := m.front 4 rfl
    exact ⟨_, (GLe.refl _), m, f.weak ⟨rfl, rfl, rfl, rfl, rfl, rfl, rfl, rfl, rfl, rfl, rfl, rfl, trivial⟩⟩
   ·refine l_run f rfl rfl hc_91 ?_
    refine l_boxAgg 3 0 (ds := [v_27]) m Ag29 f rfl rfl rfl rfl rfl (fun a f => ?_)
    refine l_run f rfl rfl hc_91 ?_
    refine l_op f rfl rfl rfl (r_move (f.eval rfl)) (fun a f => ?_)
    refine l_run f rfl rfl hc_91 ?_
    obtain ⟨y_122, hy_123, hj_121⟩ := bind_some hj_121
    refine l_res f rfl rfl Tryd.call13 (Ow.lendCall (RSl.mono (RI.mono _)) 4 o_29 m rfl (fun G_124 hl_125 m h_126 => (Ow2.lendCall (RI.mono _) 0 (Ow2.mono (RI.mono _) hl_125 o_63) m rfl (fun G_127 hl_128 m h_129 => Wk.impl_PathBagsOk m (RSl.mono (RSl.mono (RI.mono _)) _ _ _ _ hl_128 h_126) h_129 hy_123) (fun _ _ _ _ h => h))) (fun _ _ _ _ h => h)) (fun v_133 G_130 Ho_134 w hl_131 m hQ_132 a f => ?_)
    obtain ⟨rfl, rfl⟩ := hQ_132
    have h0 := RSl.mono (RI.mono _) _ _ _ _ hl_131 h0
    have o_63 := Ow2.mono (RI.mono _) hl_131 o_63
    have o_44 := Ow.mono (RI.mono _) hl_131 o_44
    have h_47 := RSl.mono (RI.mono _) _ _ _ _ hl_131 h_47
    have o_29 := Ow.mono (RSl.mono (RI.mono _)) hl_131 o_29
    have m : Mem W G_130 w (it_62 :: it_43 :: Itm.box b_18 55 [v_46, (.int .i64 y_35.2.2.1), (.int .u64 y_35.2.2.2)] :: Itm.box b_34 29 [v_27] :: it_28 :: H) := m
    refine l_run f rfl rfl hc_91 ?_
    refine l_op f rfl rfl rfl (r_not (f.eval rfl)) (fun a f => ?_)
    refine l_op f rfl rfl rfl (r_pickF (f.eval rfl) hc_91 (f.eval rfl)) (fun a f => ?_)
    obtain rfl := Option.some.inj hj_121
    have m : Mem W G_130 w (it_28 :: it_62 :: it_43 :: Itm.box b_18 55 [v_46, (.int .i64 y_35.2.2.1), (.int .u64 y_35.2.2.2)] :: Itm.box b_34 29 [v_27] :: H) := m.front 4 rfl
    have m : Mem W G_130 w (Itm.box b_34 29 [v_27] :: it_28 :: it_62 :: it_43 :: Itm.box b_18 55 [v_46, (.int .i64 y_35.2.2.1), (.int .u64 y_35.2.2.2)] :: H) := m.front 4 rfl
    have m : Mem W G_130 w (Itm.box b_18 55 [v_46, (.int .i64 y_35.2.2.1), (.int .u64 y_35.2.2.2)] :: Itm.box b_34 29 [v_27] :: it_28 :: it_62 :: it_43 :: H) := m.front 4 rfl
    have m : Mem W G_130 w (it_43 :: Itm.box b_18 55 [v_46, (.int .i64 y_35.2.2.1), (.int .u64 y_35.2.2.2)] :: Itm.box b_34 29 [v_27] :: it_28 :: it_62 :: H) := m.front 4 rfl
    have m : Mem W G_130 w (it_62 :: it_43 :: Itm.box b_18 55 [v_46, (.int .i64 y_35.2.2.1), (.int .u64 y_35.2.2.2)] :: Itm.box b_34 29 [v_27] :: it_28 :: H) := m.front 4 rfl
    exact ⟨_, hl_131, m, f.weak ⟨rfl, rfl, rfl, rfl, rfl, rfl, rfl, rfl, rfl, rfl, rfl, rfl, trivial⟩⟩
  ·rintro a w ⟨G_118, hl_119, m, f⟩
   have h0 := RSl.mono (RI.mono _) _ _ _ _ hl_119 h0
   have o_63 := Ow2.mono (RI.mono _) hl_119 o_63
   have o_44 := Ow.mono (RI.mono _) hl_119 o_44
   have h_47 := RSl.mono (RI.mono _) _ _ _ _ hl_119 h_47
   have o_29 := Ow.mono (RSl.mono (RI.mono _)) hl_119 o_29
   refine l_op f rfl rfl rfl (r_move (f.eval rfl)) (fun a f => ?_)
   obtain ⟨b_158, hj_159, hd⟩ := bind_some hd
   refine l_cut 5 (fun a w => ∃ G_156, GLe G_118 G_156 ∧ Mem W G_156 w (it_62 :: it_43 :: Itm.box b_18 55 [v_46, (.int .i64 y_35.2.2.1), (.int .u64 y_35.2.2.2)] :: Itm.box b_34 29 [v_27] :: it_28 :: H) ∧ Fr a 64 [(0, v0), (3, (.pointer (some ⟨b_18, 0, none⟩))), (4, (.pointer (some ⟨b_34, 0, none⟩))), (5, v_42), (6, v_61), (7, (.int .i64 y_65)), (26, (.agg #[v_27])), (27, v_61), (28, (.bool y_78)), (29, (.bool (!y_78))), (30, (.bool (!y_78))), (35, (.bool b_120)), (36, (.bool b_120)), (41, (.bool b_158))]) ?_ ?_
   ·rcases cond_some hj_159 with ⟨hc_135, hj_159⟩ | ⟨hc_135, hj_159⟩
    ·refine l_not' f rfl rfl rfl hc_135 (fun a f => ?_)
     refine l_not' f rfl rfl rfl hc_135 (fun a f => ?_)
     refine l_not' f rfl rfl rfl hc_135 (fun a f => ?_)
     refine l_not' f rfl rfl rfl hc_135 (fun a f => ?_)
     refine l_op f rfl rfl rfl (r_pickT (f.eval rfl) hc_135 (f.eval rfl)) (fun a f => ?_)
     obtain rfl := Option.some.inj hj_159
     have m : Mem W G_118 w (it_28 :: it_62 :: it_43 :: Itm.box b_18 55 [v_46, (.int .i64 y_35.2.2.1), (.int .u64 y_35.2.2.2)] :: Itm.box b_34 29 [v_27] :: H) := m.front 4 rfl
     have m : Mem W G_118 w (Itm.box b_34 29 [v_27] :: it_28 :: it_62 :: it_43 :: Itm.box b_18 55 [v_46, (.int .i64 y_35.2.2.1), (.int .u64 y_35.2.2.2)] :: H) := m.front 4 rfl
     have m : Mem W G_118 w (Itm.box b_18 55 [v_46, (.int .i64 y_35.2.2.1), (.int .u64 y_35.2.2.2)] :: Itm.box b_34 29 [v_27] :: it_28 :: it_62 :: it_43 :: H) := m.front 4 rfl
     have m : Mem W G_118 w (it_43 :: Itm.box b_18 55 [v_46, (.int .i64 y_35.2.2.1), (.int .u64 y_35.2.2.2)] :: Itm.box b_34 29 [v_27] :: it_28 :: it_62 :: H) := m.front 4 rfl
     have m : Mem W G_118 w (it_62 :: it_43 :: Itm.box b_18 55 [v_46, (.int .i64 y_35.2.2.1), (.int .u64 y_35.2.2.2)] :: Itm.box b_34 29 [v_27] :: it_28 :: H) := m.front 4 rfl
     exact ⟨_, (GLe.refl _), m, f.weak ⟨rfl, rfl, rfl, rfl, rfl, rfl, rfl, rfl, rfl, rfl, rfl, rfl, rfl, rfl, trivial⟩⟩
    ·refine l_run f rfl rfl hc_135 ?_
     refine l_op f rfl rfl rfl (r_move (f.eval rfl)) (fun a f => ?_)
     refine l_run f rfl rfl hc_135 ?_
     obtain ⟨y_160, hy_161, hj_159⟩ := bind_some hj_159
     refine l_res f rfl rfl Tryd.call14 (Ow2.lendCall (RI.mono _) 0 o_63 m rfl (fun G_162 hl_163 m h_164 => Wk.impl_BagsWidth m h_164 hy_161) (fun _ _ _ _ h => h)) (fun v_168 G_165 Ho_169 w hl_166 m hQ_167 a f => ?_)
     obtain ⟨rfl, rfl⟩ := hQ_167
     have h0 := RSl.mono (RI.mono _) _ _ _ _ hl_166 h0
     have o_63 := Ow2.mono (RI.mono _) hl_166 o_63
     have o_44 := Ow.mono (RI.mono _) hl_166 o_44
     have h_47 := RSl.mono (RI.mono _) _ _ _ _ hl_166 h_47
     have o_29 := Ow.mono (RSl.mono (RI.mono _)) hl_166 o_29
     have m : Mem W G_165 w (it_62 :: it_43 :: Itm.box b_18 55 [v_46, (.int .i64 y_35.2.2.1), (.int .u64 y_35.2.2.2)] :: Itm.box b_34 29 [v_27] :: it_28 :: H) := m
     refine l_run f rfl rfl hc_135 ?_
     refine l_op f rfl rfl rfl (r_move (f.eval rfl)) (fun a f => ?_)
     refine l_run f rfl rfl hc_135 ?_
     refine l_op f rfl rfl rfl (r_int (f.eval rfl) (f.eval rfl) b_neq) (fun a f => ?_)
     refine l_op f rfl rfl rfl (r_pickF (f.eval rfl) hc_135 (f.eval rfl)) (fun a f => ?_)
     obtain rfl := Option.some.inj hj_159
     have m : Mem W G_165 w (it_28 :: it_62 :: it_43 :: Itm.box b_18 55 [v_46, (.int .i64 y_35.2.2.1), (.int .u64 y_35.2.2.2)] :: Itm.box b_34 29 [v_27] :: H) := m.front 4 rfl
     have m : Mem W G_165 w (Itm.box b_34 29 [v_27] :: it_28 :: it_62 :: it_43 :: Itm.box b_18 55 [v_46, (.int .i64 y_35.2.2.1), (.int .u64 y_35.2.2.2)] :: H) := m.front 4 rfl
     have m : Mem W G_165 w (Itm.box b_18 55 [v_46, (.int .i64 y_35.2.2.1), (.int .u64 y_35.2.2.2)] :: Itm.box b_34 29 [v_27] :: it_28 :: it_62 :: it_43 :: H) := m.front 4 rfl
     have m : Mem W G_165 w (it_43 :: Itm.box b_18 55 [v_46, (.int .i64 y_35.2.2.1), (.int .u64 y_35.2.2.2)] :: Itm.box b_34 29 [v_27] :: it_28 :: it_62 :: H) := m.front 4 rfl
     have m : Mem W G_165 w (it_62 :: it_43 :: Itm.box b_18 55 [v_46, (.int .i64 y_35.2.2.1), (.int .u64 y_35.2.2.2)] :: Itm.box b_34 29 [v_27] :: it_28 :: H) := m.front 4 rfl
     exact ⟨_, hl_166, m, f.weak ⟨rfl, rfl, rfl, rfl, rfl, rfl, rfl, rfl, rfl, rfl, rfl, rfl, rfl, rfl, trivial⟩⟩
   ·rintro a w ⟨G_156, hl_157, m, f⟩
    have h0 := RSl.mono (RI.mono _) _ _ _ _ hl_157 h0
    have o_63 := Ow2.mono (RI.mono _) hl_157 o_63
    have o_44 := Ow.mono (RI.mono _) hl_157 o_44
    have h_47 := RSl.mono (RI.mono _) _ _ _ _ hl_157 h_47
    have o_29 := Ow.mono (RSl.mono (RI.mono _)) hl_157 o_29
    refine l_nil ?_
    rcases cond_some hd with ⟨hc_170, hd⟩ | ⟨hc_170, hd⟩
    ·refine k_true f rfl hc_170 ?_
     refine k_seq ?_
     refine k_region ?_
     refine l_op f rfl rfl rfl (r_assign (f.eval rfl)) (fun a f => ?_)
     refine l_nil ?_
     refine k_ret ?_
     have m : Mem W G_156 w H := Mem.drop (H' := [it_62, it_43, Itm.box b_18 55 [v_46, (.int .i64 y_35.2.2.1), (.int .u64 y_35.2.2.2)], Itm.box b_34 29 [v_27], it_28]) m
     obtain rfl := Option.some.inj hd
     exact ⟨[(.bool false)], ⟨f.get _ _ rfl, trivial⟩, f.defers, _, [], (GLe.trans hl_4 (GLe.trans hl_12 (GLe.trans hl_23 (GLe.trans hl_38 (GLe.trans hl_57 (GLe.trans hl_74 (GLe.trans hl_87 (GLe.trans hl_119 hl_157)))))))), m, rfl, rfl⟩
    ·refine k_false f rfl hc_170 ?_
     refine k_skip ?_
     refine k_seq ?_
     refine k_region ?_
     refine l_boxAgg 3 0 (ds := [v_27]) m Ag29 f rfl rfl rfl rfl rfl (fun a f => ?_)
     refine l_op f rfl rfl rfl (r_move (f.eval rfl)) (fun a f => ?_)
     obtain ⟨y_171, hy_172, hd⟩ := bind_some hd
     refine l_res f rfl rfl Tryd.call15 (Ow.lendCall (RSl.mono (RI.mono _)) 4 o_29 m rfl (fun G_173 hl_174 m h_175 => (Ow2.lendCall (RI.mono _) 0 (Ow2.mono (RI.mono _) hl_174 o_63) m rfl (fun G_176 hl_177 m h_178 => Wk.impl_OrderOfBags hW m (RSl.mono (RSl.mono (RI.mono _)) _ _ _ _ hl_177 h_175) h_178 hy_172) (fun _ G' _ _ ⟨a0, a1, e1, e2, o0⟩ => ⟨a0, a1, e1, e2, Ow.free (RI.free _) G' o0⟩))) (fun _ G' _ _ ⟨a0, a1, e1, e2, o0⟩ => ⟨a0, a1, e1, e2, Ow.free (RI.free _) G' o0⟩)) (fun v_182 G_179 Ho_183 w hl_180 m hQ_181 a f => ?_)
     obtain ⟨v_184, it_185, rfl, rfl, o_186⟩ := hQ_181
     have h0 := RSl.mono (RI.mono _) _ _ _ _ hl_180 h0
     have o_63 := Ow2.mono (RI.mono _) hl_180 o_63
     have o_44 := Ow.mono (RI.mono _) hl_180 o_44
     have h_47 := RSl.mono (RI.mono _) _ _ _ _ hl_180 h_47
     have o_29 := Ow.mono (RSl.mono (RI.mono _)) hl_180 o_29
     have m : Mem W G_179 w (it_185 :: it_62 :: it_43 :: Itm.box b_18 55 [v_46, (.int .i64 y_35.2.2.1), (.int .u64 y_35.2.2.2)] :: Itm.box b_34 29 [v_27] :: it_28 :: H) := m
     refine l_op f rfl rfl rfl (r_assign (f.eval rfl)) (fun a f => ?_)
     refine l_nil ?_
     refine k_seq ?_
     have m : Mem W G_179 w (it_43 :: it_185 :: it_62 :: Itm.box b_18 55 [v_46, (.int .i64 y_35.2.2.1), (.int .u64 y_35.2.2.2)] :: Itm.box b_34 29 [v_27] :: it_28 :: H) := m.front 2 rfl
     obtain ⟨G_223, hl_224, m, h_225⟩ := Ow.stamp (RI.mono _) o_44 m
     have h0 := RSl.mono (RI.mono _) _ _ _ _ hl_224 h0
     have o_186 := Ow.mono (RI.mono _) hl_224 o_186
     have o_63 := Ow2.mono (RI.mono _) hl_224 o_63
     have h_47 := RSl.mono (RI.mono _) _ _ _ _ hl_224 h_47
     have o_29 := Ow.mono (RSl.mono (RI.mono _)) hl_224 o_29
     have m : Mem W G_223 w (it_185 :: it_62 :: Itm.box b_18 55 [v_46, (.int .i64 y_35.2.2.1), (.int .u64 y_35.2.2.2)] :: Itm.box b_34 29 [v_27] :: it_28 :: H) := m
     have m : Mem W G_223 w (it_28 :: it_185 :: it_62 :: Itm.box b_18 55 [v_46, (.int .i64 y_35.2.2.1), (.int .u64 y_35.2.2.2)] :: Itm.box b_34 29 [v_27] :: H) := m.front 4 rfl
     obtain ⟨G_277, hl_278, m, h_279⟩ := Ow.stamp (RSl.mono (RI.mono _)) o_29 m
     have h0 := RSl.mono (RI.mono _) _ _ _ _ hl_278 h0
     have h_225 := RSl.mono (RI.mono _) _ _ _ _ hl_278 h_225
     have o_186 := Ow.mono (RI.mono _) hl_278 o_186
     have o_63 := Ow2.mono (RI.mono _) hl_278 o_63
     have h_47 := RSl.mono (RI.mono _) _ _ _ _ hl_278 h_47
     have m : Mem W G_277 w (it_185 :: it_62 :: Itm.box b_18 55 [v_46, (.int .i64 y_35.2.2.1), (.int .u64 y_35.2.2.2)] :: Itm.box b_34 29 [v_27] :: H) := m
     refine k_draw 20 Follows (by kernel_rfl) m ?_
     refine q_boxAgg (i := 0) (listed' := #[true, false, false, false, false, false, false, false, false, false, false, false, false, false, false, false, false, false, false, false]) (ds := [v_27]) 20 3 Ag29 rfl rfl rfl rfl (by kernel_rfl) rfl f rfl rfl rfl (fun a f => ?_)
     refine q_op (i := 1) (listed' := #[true, true, false, false, false, false, false, false, false, false, false, false, false, false, false, false, false, false, false, false]) 20 rfl (by kernel_rfl) rfl f rfl rfl rfl (fun _ _ _ _ _ => r_move (f.eval rfl)) (fun a f => ?_)
     obtain ⟨y_280, hy_281, hd⟩ := bind_some hd
     refine q_call (i := 2) (listed' := #[true, true, true, false, false, false, false, false, false, false, false, false, false, false, false, false, false, false, false, false]) 20 rfl (by kernel_rfl) rfl f rfl rfl rfl Tryd.call16 (fun _ _ w hG_282 m => (Ow.lendCallR (RI.mono _) 0 (Ow.mono (RI.mono _) hG_282 o_186) m rfl (fun G_283 hl_284 m h_285 => Wk.spec_OrderOk m (RSl.mono (RSl.mono (RI.mono _)) _ _ _ _ hl_284 (RSl.mono (RSl.mono (RI.mono _)) _ _ _ _ hG_282 h_279)) h_285 hy_281) (fun _ _ _ _ h => h))) (fun a f => ?_)
     refine q_op (i := 3) (listed' := #[true, true, true, true, false, false, false, false, false, false, false, false, false, false, false, false, false, false, false, false]) 20 rfl (by kernel_rfl) rfl f rfl rfl rfl (fun _ _ _ _ _ => r_move (f.eval rfl)) (fun a f => ?_)
     obtain ⟨b_294, hj_295, hd⟩ := bind_some hd
     refine q_cut (fuel' := 10) (listed' := #[true, true, true, true, true, true, true, true, true, true, false, false, false, false, false, false, false, false, false, false]) (fun a => Fr a 64 [(0, v0), (3, (.pointer (some ⟨b_18, 0, none⟩))), (4, (.pointer (some ⟨b_34, 0, none⟩))), (5, v_42), (6, v_61), (7, (.int .i64 y_65)), (8, v_184), (45, (.agg #[v_27])), (46, v_184), (47, (.bool y_280)), (48, (.bool y_280)), (54, (.bool b_294))]) ?_ ?_
     ·intro a f
      refine q_op (i := 10) (listed' := #[true, true, true, true, true, true, true, true, true, true, true, false, false, false, false, false, false, false, false, false]) 20 rfl (by kernel_rfl) rfl f rfl rfl rfl (fun _ _ _ _ _ => r_move (f.eval rfl)) (fun a f => ?_)
      rcases cond_some hd with ⟨hc_302, hd⟩ | ⟨hc_302, hd⟩
      ·refine q_op (i := 11) (listed' := #[true, true, true, true, true, true, true, true, true, true, true, true, false, false, false, false, false, false, false, false]) 20 rfl (by kernel_rfl) rfl f (wanted_of f rfl rfl rfl hc_302) rfl rfl (fun _ _ _ _ _ => r_move (f.eval rfl)) (fun a f => ?_)
       refine q_boxAgg (i := 12) (listed' := #[true, true, true, true, true, true, true, true, true, true, true, true, true, false, false, false, false, false, false, false]) (ds := [v_27]) 20 3 Ag29 rfl rfl rfl rfl (by kernel_rfl) rfl f (wanted_of f rfl rfl rfl hc_302) rfl rfl (fun a f => ?_)
       refine q_op (i := 13) (listed' := #[true, true, true, true, true, true, true, true, true, true, true, true, true, true, false, false, false, false, false, false]) 20 rfl (by kernel_rfl) rfl f (wanted_of f rfl rfl rfl hc_302) rfl rfl (fun _ _ _ _ _ => r_move (f.eval rfl)) (fun a f => ?_)
       obtain ⟨l_303, hx_304, hd⟩ := bind_some hd
       refine q_slice (i := 14) (listed' := #[true, true, true, true, true, true, true, true, true, true, true, true, true, true, true, false, false, false, false, false]) 20 T31 h_225 hx_304 rfl (by kernel_rfl) rfl f (wanted_of f rfl rfl rfl hc_302) rfl rfl (.inl ⟨rfl, rfl⟩) (.inr ⟨_, _, rfl, rfl⟩) (fun v_305 a h_306 f => ?_)
       refine q_one (i := 15) (listed' := #[true, true, true, true, true, true, true, true, true, true, true, true, true, true, true, true, false, false, false, false]) rfl (by kernel_rfl) rfl (fun G_307 w hl_308 m K_309 K_309 => ?_)
       have h0 := RSl.mono (RI.mono _) _ _ _ _ hl_308 h0
       have h_225 := RSl.mono (RI.mono _) _ _ _ _ hl_308 h_225
       have h_279 := RSl.mono (RSl.mono (RI.mono _)) _ _ _ _ hl_308 h_279
       have h_306 := RSl.mono (RI.mono _) _ _ _ _ hl_308 h_306
       have o_186 := Ow.mono (RI.mono _) hl_308 o_186
       have o_63 := Ow2.mono (RI.mono _) hl_308 o_63
       have h_47 := RSl.mono (RI.mono _) _ _ _ _ hl_308 h_47
       have m : Mem W G_307 w (it_185 :: it_62 :: Itm.box b_18 55 [v_46, (.int .i64 y_35.2.2.1), (.int .u64 y_35.2.2.2)] :: Itm.box b_34 29 [v_27] :: H) := m
       refine l_run f rfl rfl hc_302 ?_
       obtain ⟨y_310, hy_311, hd⟩ := bind_some hd
       refine l_res f rfl rfl Tryd.call18 (Wk.spec_OpenOf m h_279 h_306 hy_311) (fun v_315 G_312 Ho_316 w hl_313 m hQ_314 a f => ?_)
       obtain ⟨v_317, rfl, rfl, h_318⟩ := hQ_314
       have h0 := RSl.mono (RI.mono _) _ _ _ _ hl_313 h0
       have h_225 := RSl.mono (RI.mono _) _ _ _ _ hl_313 h_225
       have h_279 := RSl.mono (RSl.mono (RI.mono _)) _ _ _ _ hl_313 h_279
       have h_306 := RSl.mono (RI.mono _) _ _ _ _ hl_313 h_306
       have o_186 := Ow.mono (RI.mono _) hl_313 o_186
       have o_63 := Ow2.mono (RI.mono _) hl_313 o_63
       have h_47 := RSl.mono (RI.mono _) _ _ _ _ hl_313 h_47
       have m : Mem W G_312 w (it_185 :: it_62 :: Itm.box b_18 55 [v_46, (.int .i64 y_35.2.2.1), (.int .u64 y_35.2.2.2)] :: Itm.box b_34 29 [v_27] :: H) := m
       refine l_nil ?_
       refine K_309 G_312 [] _ _ hl_313 m ?_
       refine q_len (i := 16) (listed' := #[true, true, true, true, true, true, true, true, true, true, true, true, true, true, true, true, true, false, false, false]) 20 Tryd.underlying31 h_318 rfl (by kernel_rfl) rfl f (wanted_of f rfl rfl rfl hc_302) rfl rfl (fun a f => ?_)
       refine q_op (i := 17) (listed' := #[true, true, true, true, true, true, true, true, true, true, true, true, true, true, true, true, true, true, false, false]) 20 rfl (by kernel_rfl) rfl f (wanted_of f rfl rfl rfl hc_302) rfl rfl (fun _ _ _ _ _ => r_int (f.eval rfl) (f.eval rfl) b_geq) (fun a f => ?_)
       refine q_op (i := 18) (listed' := #[true, true, true, true, true, true, true, true, true, true, true, true, true, true, true, true, true, true, true, false]) 20 rfl (by kernel_rfl) rfl f rfl rfl rfl (fun _ _ _ _ _ => r_pickT (f.eval rfl) hc_302 (f.eval rfl)) (fun a f => ?_)
       refine q_op (i := 19) (listed' := #[true, true, true, true, true, true, true, true, true, true, true, true, true, true, true, true, true, true, true, true]) 20 rfl (by kernel_rfl) rfl f rfl rfl rfl (fun _ _ _ _ _ => r_assign (f.eval rfl)) (fun a f => ?_)
       refine q_end (fun G_319 w hl_320 m => ?_)
       have h0 := RSl.mono (RI.mono _) _ _ _ _ hl_320 h0
       have h_225 := RSl.mono (RI.mono _) _ _ _ _ hl_320 h_225
       have h_279 := RSl.mono (RSl.mono (RI.mono _)) _ _ _ _ hl_320 h_279
       have h_306 := RSl.mono (RI.mono _) _ _ _ _ hl_320 h_306
       have h_318 := RSl.mono (RI.mono _) _ _ _ _ hl_320 h_318
       have o_186 := Ow.mono (RI.mono _) hl_320 o_186
       have o_63 := Ow2.mono (RI.mono _) hl_320 o_63
       have h_47 := RSl.mono (RI.mono _) _ _ _ _ hl_320 h_47
       have m : Mem W G_319 w (it_185 :: it_62 :: Itm.box b_18 55 [v_46, (.int .i64 y_35.2.2.1), (.int .u64 y_35.2.2.2)] :: Itm.box b_34 29 [v_27] :: H) := m
       refine l_nil ?_
       refine k_ret ?_
       have m : Mem W G_319 w H := Mem.drop (H' := [it_185, it_62, Itm.box b_18 55 [v_46, (.int .i64 y_35.2.2.1), (.int .u64 y_35.2.2.2)], Itm.box b_34 29 [v_27]]) m
       obtain rfl := Option.some.inj hd
       exact ⟨[(.bool (decide ((y_310.length : Int) ≤ y_65)))], ⟨f.get _ _ rfl, trivial⟩, f.defers, _, [], (GLe.trans hl_4 (GLe.trans hl_12 (GLe.trans hl_23 (GLe.trans hl_38 (GLe.trans hl_57 (GLe.trans hl_74 (GLe.trans hl_87 (GLe.trans hl_119 (GLe.trans hl_157 (GLe.trans hl_180 (GLe.trans hl_224 (GLe.trans hl_278 (GLe.trans hl_308 (GLe.trans hl_313 hl_320)))))))))))))), m, rfl, rfl⟩
      ·refine q_not (i := 11) (listed' := #[true, true, true, true, true, true, true, true, true, true, true, true, false, false, false, false, false, false, false, false]) 20 rfl (by kernel_rfl) rfl f rfl rfl rfl hc_302 rfl rfl (fun a f => ?_)
       refine q_not (i := 12) (listed' := #[true, true, true, true, true, true, true, true, true, true, true, true, true, false, false, false, false, false, false, false]) 20 rfl (by kernel_rfl) rfl f rfl rfl rfl hc_302 rfl rfl (fun a f => ?_)
       refine q_not (i := 13) (listed' := #[true, true, true, true, true, true, true, true, true, true, true, true, true, true, false, false, false, false, false, false]) 20 rfl (by kernel_rfl) rfl f rfl rfl rfl hc_302 rfl rfl (fun a f => ?_)
       refine q_not (i := 14) (listed' := #[true, true, true, true, true, true, true, true, true, true, true, true, true, true, true, false, false, false, false, false]) 20 rfl (by kernel_rfl) rfl f rfl rfl rfl hc_302 rfl rfl (fun a f => ?_)
       refine q_not (i := 15) (listed' := #[true, true, true, true, true, true, true, true, true, true, true, true, true, true, true, true, false, false, false, false]) 20 rfl (by kernel_rfl) rfl f rfl rfl rfl hc_302 rfl rfl (fun a f => ?_)
       refine q_not (i := 16) (listed' := #[true, true, true, true, true, true, true, true, true, true, true, true, true, true, true, true, true, false, false, false]) 20 rfl (by kernel_rfl) rfl f rfl rfl rfl hc_302 rfl rfl (fun a f => ?_)
       refine q_not (i := 17) (listed' := #[true, true, true, true, true, true, true, true, true, true, true, true, true, true, true, true, true, true, false, false]) 20 rfl (by kernel_rfl) rfl f rfl rfl rfl hc_302 rfl rfl (fun a f => ?_)
       refine q_op (i := 18) (listed' := #[true, true, true, true, true, true, true, true, true, true, true, true, true, true, true, true, true, true, true, false]) 20 rfl (by kernel_rfl) rfl f rfl rfl rfl (fun _ _ _ _ _ => r_pickF (f.eval rfl) hc_302 (f.eval rfl)) (fun a f => ?_)
       refine q_op (i := 19) (listed' := #[true, true, true, true, true, true, true, true, true, true, true, true, true, true, true, true, true, true, true, true]) 20 rfl (by kernel_rfl) rfl f rfl rfl rfl (fun _ _ _ _ _ => r_assign (f.eval rfl)) (fun a f => ?_)
       refine q_end (fun G_321 w hl_322 m => ?_)
       have h0 := RSl.mono (RI.mono _) _ _ _ _ hl_322 h0
       have h_225 := RSl.mono (RI.mono _) _ _ _ _ hl_322 h_225
       have h_279 := RSl.mono (RSl.mono (RI.mono _)) _ _ _ _ hl_322 h_279
       have o_186 := Ow.mono (RI.mono _) hl_322 o_186
       have o_63 := Ow2.mono (RI.mono _) hl_322 o_63
       have h_47 := RSl.mono (RI.mono _) _ _ _ _ hl_322 h_47
       have m : Mem W G_321 w (it_185 :: it_62 :: Itm.box b_18 55 [v_46, (.int .i64 y_35.2.2.1), (.int .u64 y_35.2.2.2)] :: Itm.box b_34 29 [v_27] :: H) := m
       refine l_nil ?_
       refine k_ret ?_
       have m : Mem W G_321 w H := Mem.drop (H' := [it_185, it_62, Itm.box b_18 55 [v_46, (.int .i64 y_35.2.2.1), (.int .u64 y_35.2.2.2)], Itm.box b_34 29 [v_27]]) m
       obtain rfl := Option.some.inj hd
       exact ⟨[(.bool false)], ⟨f.get _ _ rfl, trivial⟩, f.defers, _, [], (GLe.trans hl_4 (GLe.trans hl_12 (GLe.trans hl_23 (GLe.trans hl_38 (GLe.trans hl_57 (GLe.trans hl_74 (GLe.trans hl_87 (GLe.trans hl_119 (GLe.trans hl_157 (GLe.trans hl_180 (GLe.trans hl_224 (GLe.trans hl_278 hl_322)))))))))))), m, rfl, rfl⟩
     ·intro K_293
      rcases cond_some hj_295 with ⟨hc_286, hj_295⟩ | ⟨hc_286, hj_295⟩
      ·refine q_boxAgg (i := 4) (listed' := #[true, true, true, true, true, false, false, false, false, false, false, false, false, false, false, false, false, false, false, false]) (ds := [v_27]) 20 3 Ag29 rfl rfl rfl rfl (by kernel_rfl) rfl f (wanted_of f rfl rfl rfl hc_286) rfl rfl (fun a f => ?_)
       refine q_op (i := 5) (listed' := #[true, true, true, true, true, true, false, false, false, false, false, false, false, false, false, false, false, false, false, false]) 20 rfl (by kernel_rfl) rfl f (wanted_of f rfl rfl rfl hc_286) rfl rfl (fun _ _ _ _ _ => r_move (f.eval rfl)) (fun a f => ?_)
       obtain ⟨y_296, hy_297, hj_295⟩ := bind_some hj_295
       refine q_call (i := 6) (listed' := #[true, true, true, true, true, true, true, false, false, false, false, false, false, false, false, false, false, false, false, false]) 20 rfl (by kernel_rfl) rfl f (wanted_of f rfl rfl rfl hc_286) rfl rfl Tryd.call17 (fun _ _ w hG_298 m => (Ow.lendCallR (RI.mono _) 0 (Ow.mono (RI.mono _) hG_298 o_186) m rfl (fun G_299 hl_300 m h_301 => Wk.spec_Separation m (RSl.mono (RSl.mono (RI.mono _)) _ _ _ _ hl_300 (RSl.mono (RSl.mono (RI.mono _)) _ _ _ _ hG_298 h_279)) h_301 hy_297) (fun _ _ _ _ h => h))) (fun a f => ?_)
       refine q_op (i := 7) (listed' := #[true, true, true, true, true, true, true, true, false, false, false, false, false, false, false, false, false, false, false, false]) 20 rfl (by kernel_rfl) rfl f (wanted_of f rfl rfl rfl hc_286) rfl rfl (fun _ _ _ _ _ => r_move (f.eval rfl)) (fun a f => ?_)
       refine q_op (i := 8) (listed' := #[true, true, true, true, true, true, true, true, true, false, false, false, false, false, false, false, false, false, false, false]) 20 rfl (by kernel_rfl) rfl f (wanted_of f rfl rfl rfl hc_286) rfl rfl (fun _ _ _ _ _ => r_int (f.eval rfl) (f.eval rfl) b_leq) (fun a f => ?_)
       refine q_op (i := 9) (listed' := #[true, true, true, true, true, true, true, true, true, true, false, false, false, false, false, false, false, false, false, false]) 20 rfl (by kernel_rfl) rfl f rfl rfl rfl (fun _ _ _ _ _ => r_pickT (f.eval rfl) hc_286 (f.eval rfl)) (fun a f => ?_)
       obtain rfl := Option.some.inj hj_295
       exact K_293 _ (f.weak ⟨rfl, rfl, rfl, rfl, rfl, rfl, rfl, rfl, rfl, rfl, rfl, rfl, trivial⟩)
      ·refine q_not (i := 4) (listed' := #[true, true, true, true, true, false, false, false, false, false, false, false, false, false, false, false, false, false, false, false]) 20 rfl (by kernel_rfl) rfl f rfl rfl rfl hc_286 rfl rfl (fun a f => ?_)
       refine q_not (i := 5) (listed' := #[true, true, true, true, true, true, false, false, false, false, false, false, false, false, false, false, false, false, false, false]) 20 rfl (by kernel_rfl) rfl f rfl rfl rfl hc_286 rfl rfl (fun a f => ?_)
       refine q_not (i := 6) (listed' := #[true, true, true, true, true, true, true, false, false, false, false, false, false, false, false, false, false, false, false, false]) 20 rfl (by kernel_rfl) rfl f rfl rfl rfl hc_286 rfl rfl (fun a f => ?_)
       refine q_not (i := 7) (listed' := #[true, true, true, true, true, true, true, true, false, false, false, false, false, false, false, false, false, false, false, false]) 20 rfl (by kernel_rfl) rfl f rfl rfl rfl hc_286 rfl rfl (fun a f => ?_)
       refine q_not (i := 8) (listed' := #[true, true, true, true, true, true, true, true, true, false, false, false, false, false, false, false, false, false, false, false]) 20 rfl (by kernel_rfl) rfl f rfl rfl rfl hc_286 rfl rfl (fun a f => ?_)
       refine q_op (i := 9) (listed' := #[true, true, true, true, true, true, true, true, true, true, false, false, false, false, false, false, false, false, false, false]) 20 rfl (by kernel_rfl) rfl f rfl rfl rfl (fun _ _ _ _ _ => r_pickF (f.eval rfl) hc_286 (f.eval rfl)) (fun a f => ?_)
       obtain rfl := Option.some.inj hj_295
       exact K_293 _ (f.weak ⟨rfl, rfl, rfl, rfl, rfl, rfl, rfl, rfl, rfl, rfl, rfl, rfl, trivial⟩)

end Go.Proofs.YtehnblgkgaakeaaDoor

/- Loops in closed form: over the elements of a list, over the numbers below one, with a way out. Plain facts, no program in sight. -/
namespace Go.Sx
theorem w64 {x : Int} (h1 : -9223372036854775808 ≤ x) (h2 : x < 9223372036854775808) : IntKind.i64.wrap x = x := by
  simp only [IntKind.wrap, IntKind.bits, IntKind.signed]
  have e : (2 : Int) ^ 64 = 18446744073709551616 := by decide
  have e' : (2 : Int) ^ (64 - 1) = 9223372036854775808 := by decide
  simp
  omega

theorem dlt {i n : Nat} (h : i < n) : decide ((i : Int) < (n : Int)) = true := by simp; omega
theorem dnlt {n : Nat} : decide ((n : Int) < (n : Int)) = false := by simp
theorem idx_nat {α : Type} {xs : List α} {i : Nat} (h : i < xs.length) : idx xs (i : Int) = some xs[i] := by
  unfold idx; rw [if_pos (by omega)]; simp [h]
theorem idx_int {α : Type} {xs : List α} {i : Int} (h0 : 0 ≤ i) (h : i < xs.length) : idx xs i = some (xs[i.toNat]'(by omega)) := by
  unfold idx; rw [if_pos h0]; simp
theorem wi {i : Nat} (h : i < 4611686018427387904) : IntKind.i64.wrap ((i : Int) + 1) = ((i + 1 : Nat) : Int) := by
  rw [w64 (by omega) (by omega)]; rfl
theorem wi' {i n : Nat} (h : i < n) (hn : n ≤ 4611686018427387904) : IntKind.i64.wrap ((i : Int) + 1) = ((i + 1 : Nat) : Int) := wi (by omega)
theorem getD_lt {α : Type} {xs : List α} {i : Nat} (h : i < xs.length) (d : α) : xs.getD i d = xs[i] := by simp [h]
theorem appendD_ok {α : Type} {xs ys : List α} (h : xs.length + ys.length ≤ 4294967296) : appendD xs ys = some (xs ++ ys) := by
  unfold appendD; rw [if_pos h]
theorem sliceD_pre {α : Type} {xs : List α} {i : Nat} (h : i ≤ xs.length) : sliceD xs 0 (i : Int) = some (xs.take i) := by
  unfold sliceD; rw [if_pos ⟨by omega, by omega, by omega⟩]; simp
theorem sliceD_post {α : Type} {xs : List α} {i : Nat} (h : i ≤ xs.length) : sliceD xs (i : Int) (xs.length : Int) = some (xs.drop i) := by
  unfold sliceD; rw [if_pos ⟨by omega, by omega, by omega⟩]; simp
theorem makeD_zero {α : Type} {z : α} {c : Int} (h : 0 ≤ c) (h2 : c ≤ 4294967296) : makeD z 0 c = some [] := by
  unfold makeD; rw [if_pos ⟨by omega, h, h2⟩]; simp

/-- a round either goes on, nearer to the end, or leaves with what was promised -/
def Stp {σ ρ : Type} (I : σ → Prop) (μ : σ → Nat) (Post : ρ → Prop) (s : σ) : σ ⊕ ρ → Prop
  | .inl s' => I s' ∧ μ s' < μ s
  | .inr r => Post r

theorem loop_then {σ ρ β : Type} {step : σ → Option (σ ⊕ ρ)} {s : σ} {k : ρ → Option β} {Q : β → Prop} (I : σ → Prop) (μ : σ → Nat) (Post : ρ → Prop)
    (hstep : ∀ s, I s → ∃ y, step s = some y ∧ Stp I μ Post s y) (h0 : I s) (hk : ∀ r, Post r → ∃ y, k r = some y ∧ Q y) : ∃ y, (loopF step s).bind k = some y ∧ Q y := by
  obtain ⟨r, hr, hp⟩ := loopF_inv (step := step) I μ Post (fun s hs => by
    obtain ⟨y, hy, hq⟩ := hstep s hs
    cases y with
    | inl s' => exact .inl ⟨s', hy, hq.1, hq.2⟩
    | inr r => exact .inr ⟨r, hy, hq⟩) s h0
  rw [hr]
  exact hk r hp
theorem bind_then {α β : Type} {e : Option α} {k : α → Option β} {Q : β → Prop} (R : α → Prop) (h : ∃ x, e = some x ∧ R x) (hk : ∀ x, R x → ∃ y, k x = some y ∧ Q y) : ∃ y, e.bind k = some y ∧ Q y := by
  obtain ⟨x, rfl, hx⟩ := h
  exact hk x hx

/-- from state a to state b in so many rounds -/
theorem loop_steps {S ρ : Type} {step : S → Option (S ⊕ ρ)} (st : Nat → S) (n : Nat) (h : ∀ i, i < n → step (st i) = some (.inl (st (i + 1)))) : loopF step (st 0) = loopF step (st n) := by
  have key : ∀ k, k ≤ n → loopF step (st 0) = loopF step (st k) := by
    intro k
    induction k with
    | zero => intro _; rfl
    | succ k ih => intro hk; rw [ih (by omega), loopF_more (h k (by omega))]
  exact key n (Nat.le_refl n)

/-- and out of it -/
theorem loop_to {S ρ β : Type} {step : S → Option (S ⊕ ρ)} {k : ρ → Option β} {s0 : S} (st : Nat → S) (n : Nat) (r : ρ) (h0 : st 0 = s0) (h : ∀ i, i < n → step (st i) = some (.inl (st (i + 1)))) (he : step (st n) = some (.inr r)) :
    (loopF step s0).bind k = k r := by
  rw [← h0, loop_steps st n h, loopF_done he]; rfl

/-- a loop over the elements of a list, that goes to its end -/
theorem loop_list {α σ S ρ : Type} {step : S → Option (S ⊕ ρ)} (xs : List α) (enc : σ → Int → S) (f : σ → α → σ) (fin : σ → ρ) (I : σ → Prop) (s0 : σ)
    (h0 : I s0) (hstep : ∀ s (i : Nat) (h : i < xs.length), I s → step (enc s i) = some (.inl (enc (f s xs[i]) ((i + 1 : Nat) : Int))) ∧ I (f s xs[i]))
    (hend : ∀ s, I s → step (enc s xs.length) = some (.inr (fin s))) : loopF step (enc s0 0) = some (fin (xs.foldl f s0)) ∧ I (xs.foldl f s0) := by
  have key : ∀ (k i : Nat) (s : σ), i + k = xs.length → I s → loopF step (enc s i) = some (fin ((xs.drop i).foldl f s)) ∧ I ((xs.drop i).foldl f s) := by
    intro k
    induction k with
    | zero =>
      intro i s hk hs
      obtain rfl : i = xs.length := by omega
      simp only [List.drop_length, List.foldl_nil]
      exact ⟨loopF_done (hend s hs), hs⟩
    | succ k ih =>
      intro i s hk hs
      have hi : i < xs.length := by omega
      obtain ⟨h1, h2⟩ := hstep s i hi hs
      rw [loopF_more h1, List.drop_eq_getElem_cons hi, List.foldl_cons]
      exact ih (i + 1) _ (by omega) h2
  have := key xs.length 0 s0 (by omega) h0
  simpa using this

/-- and what comes behind -/
theorem loop_listb {α σ S ρ β : Type} {step : S → Option (S ⊕ ρ)} {k : ρ → Option β} (xs : List α) (enc : σ → Int → S) (f : σ → α → σ) (fin : σ → ρ) (I : σ → Prop) (s0 : σ)
    (h0 : I s0) (hstep : ∀ s (i : Nat) (h : i < xs.length), I s → step (enc s i) = some (.inl (enc (f s xs[i]) ((i + 1 : Nat) : Int))) ∧ I (f s xs[i]))
    (hend : ∀ s, I s → step (enc s xs.length) = some (.inr (fin s))) : (loopF step (enc s0 0)).bind k = k (fin (xs.foldl f s0)) := by
  rw [(loop_list xs enc f fin I s0 h0 hstep hend).1]; rfl

/-- a loop that makes one element for each element -/
theorem loop_map {α β γ S : Type} {step : S → Option (S ⊕ List β)} {k : List β → Option γ} (xs : List α) (enc : List β → Int → S) (f : α → β) (hx : xs.length ≤ 4294967296)
    (hstep : ∀ s (i : Nat) (h : i < xs.length), s.length = i → step (enc s i) = (appendD s [f xs[i]]).bind fun l => some (.inl (enc l ((i + 1 : Nat) : Int))))
    (hend : ∀ s, step (enc s xs.length) = some (.inr s)) : (loopF step (enc [] 0)).bind k = k (xs.map f) := by
  have key : ∀ i, i ≤ xs.length → loopF step (enc [] 0) = loopF step (enc ((xs.take i).map f) i) := by
    intro i
    induction i with
    | zero => intro _; simp
    | succ i ih =>
      intro hi
      rw [ih (by omega)]
      have h1 := hstep ((xs.take i).map f) i (by omega) (by simp; omega)
      have h2 : appendD ((xs.take i).map f) [f xs[i]] = some ((xs.take (i + 1)).map f) := by
        unfold appendD
        rw [if_pos (by simp; omega)]
        rw [List.take_succ_eq_append_getElem (show i < xs.length by omega), List.map_append]; rfl
      rw [h2] at h1
      rw [loopF_more h1]
  rw [key xs.length (Nat.le_refl _), List.take_length, loopF_done (hend _)]; rfl

/-- a loop that looks for the first place where something is so -/
theorem loop_find {ρ : Type} {step : Int → Option (Int ⊕ ρ)} (n : Nat) (c : Nat → Option ρ) (fin : ρ)
    (hstep : ∀ i, i < n → step (i : Int) = match c i with | some r => some (.inr r) | none => some (.inl ((i + 1 : Nat) : Int)))
    (hend : step (n : Int) = some (.inr fin)) : loopF step 0 = some (((List.range n).findSome? c).getD fin) := by
  have key : ∀ (k i : Nat), i + k = n → loopF step (i : Int) = some (((List.range' i k).findSome? c).getD fin) := by
    intro k
    induction k with
    | zero => intro i h; obtain rfl : i = n := by omega
              simpa using loopF_done hend
    | succ k ih =>
      intro i h
      have h1 := hstep i (by omega)
      rw [List.range'_succ, List.findSome?_cons]
      cases hc : c i with
      | some r => rw [hc] at h1; simpa using loopF_done h1
      | none => rw [hc] at h1; rw [loopF_more h1]; exact ih (i + 1) (by omega)
  have := key n 0 (by omega)
  simpa [List.range_eq_range'] using this

/-- all places are good, or the first bad one ends it -/
theorem loop_allb {β : Type} {step : Int → Option (Int ⊕ (Unit ⊕ β))} {k : Unit ⊕ β → Option Bool} (n : Nat) (c : Nat → Bool) (bad : β)
    (hstep : ∀ i, i < n → step (i : Int) = if c i then some (.inl ((i + 1 : Nat) : Int)) else some (.inr (.inr bad)))
    (hend : step (n : Int) = some (.inr (.inl ()))) (hk1 : k (.inl ()) = some true) (hk2 : k (.inr bad) = some false) :
    (loopF step 0).bind k = some ((List.range n).all c) := by
  rw [loop_find n (fun i => if c i then none else some (.inr bad)) (.inl ()) (fun i hi => by rw [hstep i hi]; cases c i <;> rfl) hend]
  simp only [Option.bind_some]
  cases h : (List.range n).all c with
  | true =>
    rw [List.findSome?_eq_none_iff.2 (fun x hx => by rw [if_pos (List.all_eq_true.1 h x hx)])]
    exact hk1
  | false =>
    cases h2 : (List.range n).findSome? (fun i => if c i then none else some (Sum.inr bad)) with
    | none =>
      rw [List.findSome?_eq_none_iff] at h2
      have : (List.range n).all c = true := List.all_eq_true.2 fun x hx => by
        have := h2 x hx
        cases hc : c x
        · rw [hc] at this; cases this
        · rfl
      rw [this] at h; cases h
    | some r =>
      obtain ⟨x, _, hx⟩ := List.exists_of_findSome?_eq_some h2
      cases hc : c x
      · rw [hc] at hx; simp at hx; subst hx; exact hk2
      · rw [hc] at hx; simp at hx

/-- all places are good, or the first bad one ends it: what comes behind -/
theorem loop_ck {ρ β : Type} {step : Int → Option (Int ⊕ ρ)} {k : ρ → Option β} (n : Nat) (c : Nat → Bool) (fine bad : ρ)
    (hstep : ∀ i, i < n → step (i : Int) = if c i then some (.inl ((i + 1 : Nat) : Int)) else some (.inr bad))
    (hend : step (n : Int) = some (.inr fine)) : (loopF step 0).bind k = cond ((List.range n).all c) (k fine) (k bad) := by
  rw [loop_find n (fun i => if c i then none else some bad) fine (fun i hi => by rw [hstep i hi]; cases c i <;> rfl) hend]
  simp only [Option.bind_some]
  cases h : (List.range n).all c with
  | true =>
    rw [List.findSome?_eq_none_iff.2 (fun x hx => by rw [if_pos (List.all_eq_true.1 h x hx)])]
    rfl
  | false =>
    cases h2 : (List.range n).findSome? (fun i => if c i then none else some bad) with
    | none =>
      rw [List.findSome?_eq_none_iff] at h2
      have : (List.range n).all c = true := List.all_eq_true.2 fun x hx => by
        have := h2 x hx
        cases hc : c x
        · rw [hc] at this; cases this
        · rfl
      rw [this] at h; cases h
    | some r =>
      obtain ⟨x, _, hx⟩ := List.exists_of_findSome?_eq_some h2
      cases hc : c x
      · rw [hc] at hx; simp at hx; subst hx; rfl
      · rw [hc] at hx; simp at hx

/-- some place is so -/
theorem loop_anyb {β : Type} {step : Int → Option (Int ⊕ (Unit ⊕ β))} {k : Unit ⊕ β → Option Bool} (n : Nat) (c : Nat → Bool) (good : β)
    (hstep : ∀ i, i < n → step (i : Int) = if c i then some (.inr (.inr good)) else some (.inl ((i + 1 : Nat) : Int)))
    (hend : step (n : Int) = some (.inr (.inl ()))) (hk1 : k (.inl ()) = some false) (hk2 : k (.inr good) = some true) :
    (loopF step 0).bind k = some ((List.range n).any c) := by
  rw [loop_find n (fun i => if c i then some (.inr good) else none) (.inl ()) (fun i hi => by rw [hstep i hi]; cases c i <;> rfl) hend]
  simp only [Option.bind_some]
  cases h : (List.range n).any c with
  | false =>
    rw [List.findSome?_eq_none_iff.2 (fun x hx => by
      have : c x = false := by
        cases hc : c x
        · rfl
        · rw [List.any_eq_true.2 ⟨x, hx, hc⟩] at h; cases h
      rw [this]; rfl)]
    exact hk1
  | true =>
    obtain ⟨x, hx, hc⟩ := List.any_eq_true.1 h
    cases h2 : (List.range n).findSome? (fun i => if c i then some (Sum.inr good) else none) with
    | none =>
      rw [List.findSome?_eq_none_iff] at h2
      have := h2 x hx
      rw [hc] at this; cases this
    | some r =>
      obtain ⟨y, _, hy⟩ := List.exists_of_findSome?_eq_some h2
      cases hc : c y
      · rw [hc] at hy; simp at hy
      · rw [hc] at hy; simp at hy; subst hy; exact hk2

theorem range_all_list {α : Type} (xs : List α) (p : α → Bool) (c : Nat → Bool) (h : ∀ i (hi : i < xs.length), c i = p xs[i]) : (List.range xs.length).all c = xs.all p := by
  rw [Bool.eq_iff_iff, List.all_eq_true, List.all_eq_true]
  constructor
  · intro hh x hx
    obtain ⟨i, hi, rfl⟩ := List.getElem_of_mem hx
    rw [← h i hi]; exact hh i (List.mem_range.2 hi)
  · intro hh i hi
    have hi' := List.mem_range.1 hi
    rw [h i hi']; exact hh _ (List.getElem_mem _)
theorem range_any_list {α : Type} (xs : List α) (p : α → Bool) (c : Nat → Bool) (h : ∀ i (hi : i < xs.length), c i = p xs[i]) : (List.range xs.length).any c = xs.any p := by
  rw [Bool.eq_iff_iff, List.any_eq_true, List.any_eq_true]
  constructor
  · rintro ⟨i, hi, hc⟩
    have hi' := List.mem_range.1 hi
    exact ⟨_, List.getElem_mem hi', by rw [← h i hi']; exact hc⟩
  · rintro ⟨x, hx, hc⟩
    obtain ⟨i, hi, rfl⟩ := List.getElem_of_mem hx
    exact ⟨i, List.mem_range.2 hi, by rw [h i hi]; exact hc⟩
theorem all_forall (n : Nat) (c : Nat → Bool) : (List.range n).all c = true ↔ ∀ i, i < n → c i = true := by
  rw [List.all_eq_true]
  exact ⟨fun h i hi => h i (List.mem_range.2 hi), fun h i hi => h i (List.mem_range.1 hi)⟩

end Go.Sx

/- Sets of vertices as numbers: what the bit operations do to membership. Plain facts. -/
namespace Go.Sx
theorem wrap32 (n : Int) : IntKind.u32.wrap n = n % 4294967296 := by simp [IntKind.wrap, IntKind.signed, IntKind.bits]

/-- a word of 32 bits -/
def VS (s : Int) : Prop := 0 ≤ s ∧ s < 4294967296
/-- is a vertex in a set -/
def has (s : Int) (v : Nat) : Bool := s.toNat.testBit v

theorem VS.nat {s : Int} (h : VS s) : ∃ n : Nat, s = n ∧ n < 4294967296 := ⟨s.toNat, by have := h.1; omega, by have := h.1; have := h.2; omega⟩
theorem VS.zero : VS 0 := ⟨by omega, by omega⟩
theorem VS.wrap (n : Int) : VS (IntKind.u32.wrap n) := by rw [wrap32]; exact ⟨by omega, by omega⟩
theorem VS.ofNat {n : Nat} (h : n < 4294967296) : VS (n : Int) := ⟨by omega, by omega⟩
theorem has_nat (n v : Nat) : has (n : Int) v = n.testBit v := by simp [has]
theorem has_zero (v : Nat) : has 0 v = false := by simp [has]

theorem ofInt_nat (n : Nat) (h : n < 4294967296) : (BitVec.ofInt 32 (n : Int)).toNat = n := by
  rw [BitVec.toNat_ofInt]
  omega

theorem ior_nat {a b : Nat} (ha : a < 4294967296) (hb : b < 4294967296) : ior .u32 (a : Int) (b : Int) = ((a ||| b : Nat) : Int) := by
  have hw : a ||| b < 4294967296 := Nat.or_lt_two_pow (n := 32) ha hb
  show IntKind.u32.wrap (((BitVec.ofInt 32 (a : Int) ||| BitVec.ofInt 32 (b : Int)).toNat : Nat) : Int) = _
  rw [BitVec.toNat_or, ofInt_nat a ha, ofInt_nat b hb, wrap32]; omega
theorem iand_nat {a b : Nat} (ha : a < 4294967296) (hb : b < 4294967296) : iand .u32 (a : Int) (b : Int) = ((a &&& b : Nat) : Int) := by
  have hw : a &&& b < 4294967296 := Nat.and_lt_two_pow (n := 32) _ hb
  show IntKind.u32.wrap (((BitVec.ofInt 32 (a : Int) &&& BitVec.ofInt 32 (b : Int)).toNat : Nat) : Int) = _
  rw [BitVec.toNat_and, ofInt_nat a ha, ofInt_nat b hb, wrap32]; omega
theorem VS.ior (a b : Int) : VS (ior .u32 a b) := VS.wrap _
theorem VS.iand (a b : Int) : VS (iand .u32 a b) := VS.wrap _
theorem VS.ixor (a b : Int) : VS (ixor .u32 a b) := VS.wrap _
theorem VS.iandNot (a b : Int) : VS (iandNot .u32 a b) := VS.wrap _
theorem VS.ishl (a b : Int) : VS (ishl .u32 a b) := VS.wrap _

theorem has_ior {a b : Int} (ha : VS a) (hb : VS b) (v : Nat) : has (ior .u32 a b) v = (has a v || has b v) := by
  obtain ⟨m, rfl, hm⟩ := ha.nat; obtain ⟨n, rfl, hn⟩ := hb.nat
  rw [ior_nat hm hn]; simp only [has_nat, Nat.testBit_or]
theorem has_iand {a b : Int} (ha : VS a) (hb : VS b) (v : Nat) : has (iand .u32 a b) v = (has a v && has b v) := by
  obtain ⟨m, rfl, hm⟩ := ha.nat; obtain ⟨n, rfl, hn⟩ := hb.nat
  rw [iand_nat hm hn]; simp only [has_nat, Nat.testBit_and]
theorem has_iandNot {a b : Int} (ha : VS a) (hb : VS b) (v : Nat) : has (iandNot .u32 a b) v = (has a v && !has b v) := by
  obtain ⟨m, rfl, hm⟩ := ha.nat; obtain ⟨n, rfl, hn⟩ := hb.nat
  have e : iandNot .u32 (m : Int) (n : Int) = (((BitVec.ofInt 32 (m : Int) &&& ~~~(BitVec.ofInt 32 (n : Int))).toNat : Nat) : Int) := by
    have hw := (BitVec.ofInt 32 (m : Int) &&& ~~~(BitVec.ofInt 32 (n : Int))).isLt
    show IntKind.u32.wrap (((BitVec.ofInt 32 (m : Int) &&& ~~~(BitVec.ofInt 32 (n : Int))).toNat : Nat) : Int) = _
    rw [wrap32]; omega
  rw [e, has_nat, has_nat, has_nat]
  have h1 : ∀ i, (BitVec.ofInt 32 (m : Int)).getLsbD i = m.testBit i := fun i => by rw [BitVec.getLsbD, ofInt_nat m hm]
  have h2 : ∀ i, (BitVec.ofInt 32 (n : Int)).getLsbD i = n.testBit i := fun i => by rw [BitVec.getLsbD, ofInt_nat n hn]
  rw [← BitVec.getLsbD, BitVec.getLsbD_and, BitVec.getLsbD_not, h1, h2]
  by_cases hv : v < 32
  · simp [hv]
  · have : m.testBit v = false := Nat.testBit_lt_two_pow (Nat.lt_of_lt_of_le hm (Nat.pow_le_pow_right (n := 2) (by omega) (show 32 ≤ v by omega)))
    simp [this]
theorem has_big {a : Int} (ha : VS a) {v : Nat} (hv : 32 ≤ v) : has a v = false := by
  obtain ⟨m, rfl, hm⟩ := ha.nat
  rw [has_nat]
  exact Nat.testBit_lt_two_pow (Nat.lt_of_lt_of_le hm (Nat.pow_le_pow_right (n := 2) (by omega) hv))
theorem VS.ext {a b : Int} (ha : VS a) (hb : VS b) (h : ∀ v, v < 32 → has a v = has b v) : a = b := by
  have : ∀ v, has a v = has b v := fun v => by
    by_cases hv : v < 32
    · exact h v hv
    · rw [has_big ha (by omega), has_big hb (by omega)]
  obtain ⟨m, rfl, hm⟩ := ha.nat; obtain ⟨n, rfl, hn⟩ := hb.nat
  congr 1
  apply Nat.eq_of_testBit_eq
  intro v
  have := this v
  rwa [has_nat, has_nat] at this
theorem VS.eq_zero {a : Int} (ha : VS a) : a = 0 ↔ ∀ v, v < 32 → has a v = false :=
  ⟨fun h v _ => by rw [h, has_zero], fun h => ha.ext VS.zero (fun v hv => by rw [h v hv, has_zero])⟩

/-- the set of one vertex -/
theorem one_eq {v : Nat} (hv : v < 32) : ishl .u32 1 (v : Int) = ((2 ^ v : Nat) : Int) := by
  have h : (2 : Nat) ^ v < 2 ^ 32 := Nat.pow_lt_pow_right (by omega) hv
  have h' : (2 : Nat) ^ 32 = 4294967296 := by decide
  rw [h'] at h
  show IntKind.u32.wrap (1 * 2 ^ (min ((v : Int)).toNat 32)) = _
  rw [wrap32, show min ((v : Int)).toNat 32 = v by simp; omega, Int.one_mul]
  have e : ((2 ^ v : Nat) : Int) = (2 : Int) ^ v := by simp
  rw [← e]
  generalize 2 ^ v = p at h ⊢
  omega
theorem has_one {v : Nat} (hv : v < 32) (u : Nat) : has (ishl .u32 1 (v : Int)) u = decide (u = v) := by
  rw [one_eq hv, has_nat, Nat.testBit_two_pow]
  simp [eq_comm]
theorem shr_eq (s : Int) (v : Nat) (h : VS s) (hv : v < 32) : ishr .u32 s (v : Int) = ((s.toNat >>> v : Nat) : Int) := by
  obtain ⟨m, rfl, hm⟩ := h.nat
  show Int.fdiv (m : Int) (2 ^ (min ((v : Int)).toNat 32)) = _
  rw [show min ((v : Int)).toNat 32 = v by simp; omega]
  have e : ((2 ^ v : Nat) : Int) = (2 : Int) ^ v := by simp
  rw [← e, Int.fdiv_eq_ediv_of_nonneg _ (Int.natCast_nonneg _), Nat.shiftRight_eq_div_pow]
  simp
theorem bitAt_eq {s : Int} {v : Nat} (h : VS s) (hv : v < 32) : (iand .u32 (ishr .u32 s (v : Int)) 1 == 1) = has s v := by
  rw [shr_eq s v h hv]
  have hs : s.toNat >>> v < 4294967296 := by
    obtain ⟨m, rfl, hm⟩ := h.nat
    rw [Nat.shiftRight_eq_div_pow]
    exact Nat.lt_of_le_of_lt (Nat.div_le_self _ _) hm
  have := iand_nat hs (show (1 : Nat) < 4294967296 by omega)
  rw [show (1 : Int) = ((1 : Nat) : Int) from rfl, this, has, Nat.testBit]
  rw [Nat.and_comm]
  have h1 : 1 &&& (s.toNat >>> v) = 0 ∨ 1 &&& (s.toNat >>> v) = 1 := by
    rw [Nat.and_comm, Nat.and_one_is_mod]; omega
  rcases h1 with e | e <;> rw [e] <;> rfl

/-- the numbers in a set, rising -/
def elems (s : Int) : List Int := ((List.range 32).filter (has s)).map Int.ofNat
theorem mem_elems {s : Int} {x : Int} : x ∈ elems s ↔ ∃ v : Nat, v < 32 ∧ has s v = true ∧ x = v := by
  unfold elems
  rw [List.mem_map]
  constructor
  · rintro ⟨v, hv, rfl⟩
    rw [List.mem_filter, List.mem_range] at hv
    exact ⟨v, hv.1, hv.2, rfl⟩
  · rintro ⟨v, h1, h2, rfl⟩
    exact ⟨v, List.mem_filter.2 ⟨List.mem_range.2 h1, h2⟩, rfl⟩
theorem mem_elems_nat {s : Int} (h : VS s) {v : Nat} : (v : Int) ∈ elems s ↔ has s v = true := by
  rw [mem_elems]
  constructor
  · rintro ⟨u, _, h2, h3⟩; obtain rfl : v = u := by omega
    exact h2
  · intro h2
    refine ⟨v, ?_, h2, rfl⟩
    by_cases hv : v < 32
    · exact hv
    · rw [has_big h (by omega)] at h2; cases h2
theorem elems_len (s : Int) : (elems s).length ≤ 32 := by
  unfold elems
  rw [List.length_map]
  exact Nat.le_trans (List.length_filter_le _ _) (by simp)

/-- rising lists -/
def Inc (l : List Int) : Prop := l.Pairwise (· < ·)
theorem elems_inc (s : Int) : Inc (elems s) := by
  unfold elems Inc
  rw [List.pairwise_map]
  refine List.Pairwise.filter _ ?_
  refine List.Pairwise.imp ?_ (List.pairwise_lt_range (n := 32))
  intro a b h
  show (a : Int) < (b : Int)
  omega
theorem Inc.ext : ∀ {l l' : List Int}, Inc l → Inc l' → (∀ x, x ∈ l ↔ x ∈ l') → l = l'
  | [], [], _, _, _ => rfl
  | [], y :: l', _, _, h => by have := (h y).2 (by simp); simp at this
  | x :: l, [], _, _, h => by have := (h x).1 (by simp); simp at this
  | x :: l, y :: l', h1, h2, h => by
    have h1' := List.pairwise_cons.1 h1; have h2' := List.pairwise_cons.1 h2
    have e : x = y := by
      rcases List.mem_cons.1 ((h x).1 (by simp)) with e | e
      · exact e
      · rcases List.mem_cons.1 ((h y).2 (by simp)) with e' | e'
        · exact e'.symm
        · have := h2'.1 x e; have := h1'.1 y e'; omega
    subst e
    have : l = l' := by
      refine Inc.ext h1'.2 h2'.2 (fun z => ?_)
      constructor
      · intro hz
        rcases List.mem_cons.1 ((h z).1 (List.mem_cons_of_mem _ hz)) with e | e
        · have := h1'.1 z hz; omega
        · exact e
      · intro hz
        rcases List.mem_cons.1 ((h z).2 (List.mem_cons_of_mem _ hz)) with e | e
        · have := h2'.1 z hz; omega
        · exact e
    rw [this]

/-- the least of a set, and what is left -/
theorem least_spec {s : Int} (h : VS s) (h0 : s ≠ 0) : ∃ k : Nat, k < 32 ∧ has s k = true ∧ (∀ v, v < k → has s v = false) ∧
    iand .u32 s (IntKind.u32.wrap (0 - s)) = ((2 ^ k : Nat) : Int) ∧ (∀ v, has (iand .u32 s (IntKind.u32.wrap (s - 1))) v = (has s v && !decide (v = k))) := by
  obtain ⟨m, rfl, hm⟩ := h.nat
  have hm0 : m ≠ 0 := by omega
  obtain ⟨q, hq, hk⟩ := Lib.ctzFrom_spec 32 m (by omega) hm
  have hc : Lib.ctz 32 m = Lib.ctzFrom 32 m := by unfold Lib.ctz; rw [if_neg hm0]
  obtain ⟨hl, _⟩ := Lib.lowest_bit 32 m hm0 hm
  rw [hc] at hl
  generalize Lib.ctzFrom 32 m = k at *
  have hpos : 0 < 2 ^ k := Nat.pow_pos (by omega)
  have hb : ∀ v, m.testBit v = (decide (v ≥ k) && (2 * q + 1).testBit (v - k)) := fun v => by rw [hq, Nat.mul_comm, Nat.testBit_mul_two_pow, Bool.and_comm]
  refine ⟨k, hk, ?_, fun v hv => ?_, ?_, fun v => ?_⟩
  · rw [has_nat, hb]; simp
  · rw [has_nat, hb]; simp; intro hc; omega
  · have e : IntKind.u32.wrap (0 - (m : Int)) = ((4294967296 - m : Nat) : Int) := by rw [wrap32]; omega
    rw [e, iand_nat hm (by omega)]
    rw [← hl]
  · have e : IntKind.u32.wrap ((m : Int) - 1) = ((m - 1 : Nat) : Int) := by rw [wrap32]; omega
    rw [e, iand_nat hm (by omega), has_nat, has_nat, Nat.testBit_and]
    have hm1 : m - 1 = 2 ^ k * (2 * q) + (2 ^ k - 1) := by rw [hq, Nat.mul_add]; omega
    have hb1 : (m - 1).testBit v = if v < k then true else (2 * q).testBit (v - k) := by
      rw [hm1, Nat.testBit_two_pow_mul_add _ (by omega)]
      split
      · rename_i hv; rw [Nat.testBit_two_pow_sub_one]; simp [hv]
      · rfl
    rw [hb1, hb]
    by_cases hv : v < k
    · simp [hv]; intro hc; omega
    · rw [if_neg hv]
      by_cases hvk : v = k
      · subst hvk; simp
      · obtain ⟨t, ht⟩ : ∃ t, v - k = t + 1 := ⟨v - k - 1, by omega⟩
        rw [ht, Nat.testBit_succ, Nat.testBit_succ]
        have e1 : (2 * q + 1) / 2 = q := by omega
        have e2 : 2 * q / 2 = q := by omega
        rw [e1, e2]
        simp [hvk]

theorem elems_least {s t : Int} {k : Nat} (hk : k < 32) (h1 : has s k = true) (h2 : ∀ v, v < k → has s v = false) (h3 : ∀ v, has t v = (has s v && !decide (v = k))) :
    elems s = (k : Int) :: elems t := by
  refine Inc.ext (elems_inc s) ?_ (fun x => ?_)
  · refine List.pairwise_cons.2 ⟨fun x hx => ?_, elems_inc t⟩
    obtain ⟨v, hv, h4, rfl⟩ := mem_elems.1 hx
    rw [h3] at h4
    simp at h4
    by_cases hc : v < k
    · rw [h2 v hc] at h4; simp at h4
    · omega
  · rw [List.mem_cons, mem_elems, mem_elems]
    constructor
    · rintro ⟨v, hv, h4, rfl⟩
      by_cases e : v = k
      · left; omega
      · right; exact ⟨v, hv, by rw [h3, h4]; simp [e], rfl⟩
    · rintro (rfl | ⟨v, hv, h4, rfl⟩)
      · exact ⟨k, hk, h1, rfl⟩
      · rw [h3] at h4; simp at h4
        exact ⟨v, hv, h4.1, rfl⟩
theorem elems_zero : elems 0 = [] := by
  unfold elems
  rw [List.filter_eq_nil_iff.2 (fun v _ => by simp [has_zero])]; rfl

theorem tz_table : ∀ k : Nat, k < 32 → idx tab32 (ishr .u32 (IntKind.u32.wrap (((2 ^ k : Nat) : Int) * 125613361)) 27) = some (k : Int) := by decide +kernel
end Go.Sx

/- Plain facts on lists of numbers: reading, swapping, what a sort may do. No program in sight. -/
namespace Go.Sx
def at' (l : List Int) (i : Int) : Int := l.getD i.toNat 0
theorem idx_at {l : List Int} {i : Int} (h0 : 0 ≤ i) (h1 : i < l.length) : idx l i = some (at' l i) := by
  unfold idx at'
  rw [if_pos h0]
  have : i.toNat < l.length := by omega
  simp [this]
theorem at_set {l : List Int} {i k x : Int} (h0 : 0 ≤ i) (h1 : i < l.length) (hk : 0 ≤ k) : at' (l.set i.toNat x) k = if k = i then x else at' l k := by
  unfold at'
  by_cases h : k = i
  · subst h
    have : k.toNat < l.length := by omega
    simp [this]
  · rw [if_neg h]
    have : i.toNat ≠ k.toNat := by omega
    simp [List.getD_eq_getElem?_getD, List.getElem?_set_ne this]

def sw (l : List Int) (i j : Int) : List Int := (l.set i.toNat (at' l j)).set j.toNat (at' l i)
theorem sw_len (l : List Int) (i j : Int) : (sw l i j).length = l.length := by simp [sw]
theorem sw_at {l : List Int} {i j k : Int} (hi : 0 ≤ i) (hi' : i < l.length) (hj : 0 ≤ j) (hj' : j < l.length) (hk : 0 ≤ k) :
    at' (sw l i j) k = if k = j then at' l i else if k = i then at' l j else at' l k := by
  unfold sw
  rw [at_set hj (by simpa using hj') hk]
  split
  · rfl
  · rw [at_set hi hi' hk]

theorem set_perm_erase (z : Int) : ∀ (l : List Int) (j : Nat), j < l.length → List.Perm (l.set j z) (z :: l.eraseIdx j)
  | [], j, h => by simp at h
  | x :: l, 0, _ => by simp
  | x :: l, j + 1, h => by
    simp only [List.set_cons_succ, List.eraseIdx_cons_succ]
    exact ((set_perm_erase z l j (by simpa using h)).cons x).trans (List.Perm.swap _ _ _)
theorem perm_erase (l : List Int) (j : Nat) (h : j < l.length) : List.Perm l (l[j] :: l.eraseIdx j) := by
  have := set_perm_erase l[j] l j h
  rwa [List.set_getElem_self] at this

theorem set_perm : ∀ (l : List Int) (i j : Nat) (x y : Int), l[i]? = some x → l[j]? = some y → List.Perm ((l.set i y).set j x) l
  | [], i, j, x, y, h, _ => by simp at h
  | z :: l, 0, 0, x, y, h, h' => by simp at h h'; subst h; simp
  | z :: l, 0, j + 1, x, y, h, h' => by
    simp at h h'
    subst h
    simp only [List.set_cons_zero, List.set_cons_succ]
    obtain ⟨hj, rfl⟩ := List.getElem?_eq_some_iff.1 h'
    have h1 := set_perm_erase z l j hj
    have h2 := perm_erase l j hj
    exact ((h1.cons _).trans (List.Perm.swap _ _ _)).trans (h2.symm.cons z)
  | z :: l, i + 1, 0, x, y, h, h' => by
    simp at h h'
    subst h'
    simp only [List.set_cons_zero, List.set_cons_succ]
    obtain ⟨hj, rfl⟩ := List.getElem?_eq_some_iff.1 h
    have h1 := set_perm_erase z l i hj
    have h2 := perm_erase l i hj
    exact ((h1.cons _).trans (List.Perm.swap _ _ _)).trans (h2.symm.cons z)
  | z :: l, i + 1, j + 1, x, y, h, h' => by
    simp at h h'
    simp only [List.set_cons_succ]
    exact (set_perm l i j x y h h').cons z

theorem sw_perm {l : List Int} {i j : Int} (hi : 0 ≤ i) (hi' : i < l.length) (hj : 0 ≤ j) (hj' : j < l.length) : List.Perm (sw l i j) l := by
  have h1 : i.toNat < l.length := by omega
  have h2 : j.toNat < l.length := by omega
  exact set_perm l i.toNat j.toNat _ _ (by simp [at', h1]) (by simp [at', h2])

/-- what a sort may do to the places from a to b -/
structure Rg (a b : Int) (l l' : List Int) : Prop where
  len : l'.length = l.length
  perm : List.Perm l' l
  out : ∀ k, 0 ≤ k → (k < a ∨ b ≤ k) → at' l' k = at' l k
  all : ∀ Q : Int → Prop, (∀ k, a ≤ k → k < b → Q (at' l k)) → ∀ k, a ≤ k → k < b → Q (at' l' k)

theorem Rg.refl (a b : Int) (l : List Int) : Rg a b l l := ⟨rfl, List.Perm.refl _, fun _ _ _ => rfl, fun _ h => h⟩
theorem Rg.trans {a b : Int} {l l' l'' : List Int} (h : Rg a b l l') (h' : Rg a b l' l'') : Rg a b l l'' :=
  ⟨h'.len.trans h.len, h'.perm.trans h.perm, fun k h0 hk => (h'.out k h0 hk).trans (h.out k h0 hk), fun Q hQ => h'.all Q (h.all Q hQ)⟩
theorem Rg.swap {a b i j : Int} {l : List Int} (ha : 0 ≤ a) (hb : b ≤ l.length) (hi : a ≤ i) (hi' : i < b) (hj : a ≤ j) (hj' : j < b) : Rg a b l (sw l i j) := by
  refine ⟨sw_len _ _ _, sw_perm (by omega) (by omega) (by omega) (by omega), fun k h0 hk => ?_, fun Q hQ k h1 h2 => ?_⟩
  · rw [sw_at (by omega) (by omega) (by omega) (by omega) h0, if_neg (by omega), if_neg (by omega)]
  · rw [sw_at (by omega) (by omega) (by omega) (by omega) (by omega)]
    split
    · exact hQ i hi hi'
    · split
      · exact hQ j hj hj'
      · exact hQ k h1 h2
theorem Rg.widen {a b a' b' : Int} {l l' : List Int} (h : Rg a b l l') (ha : a' ≤ a) (hb : b ≤ b') (h0 : 0 ≤ a') : Rg a' b' l l' := by
  refine ⟨h.len, h.perm, fun k h0 hk => h.out k h0 (by omega), fun Q hQ k h1 h2 => ?_⟩
  by_cases hk : a ≤ k ∧ k < b
  · exact h.all Q (fun k h3 h4 => hQ k (by omega) (by omega)) k hk.1 hk.2
  · rw [h.out k (by omega) (by omega)]; exact hQ k h1 h2

/-- sorted from a to b -/
def Srt (l : List Int) (a b : Int) : Prop := ∀ i j, a ≤ i → i < j → j < b → at' l i ≤ at' l j

end Go.Sx



/- What Go's sort at []int64 comes to. Plain. -/
namespace Go.Sx
theorem less_eq (x y : Int) : D.cmp_Less_int64 x y = some (decide (x < y)) := by
  simp [D.cmp_Less_int64, D.cmp_isNaN_int64]

theorem idx_set_at {l : List Int} {i j x : Int} (h0 : 0 ≤ i) (h1 : i < l.length) : idx (l.set j.toNat x) i = some (at' (l.set j.toNat x) i) := idx_at h0 (by simpa using h1)

theorem insertionSort_spec (l0 : List Int) (a b : Int) (ha : 0 ≤ a) (hab : a ≤ b) (hb : b ≤ l0.length) (hlen : l0.length ≤ 1000000) :
    ∃ l', D.slices_insertionSortOrdered_int64 l0 a b = some l' ∧ Rg a b l0 l' ∧ Srt l' a b := by
  unfold D.slices_insertionSortOrdered_int64
  rw [w64 (show -9223372036854775808 ≤ a + 1 by omega) (by omega)]
  refine loop_then (fun s => Rg a b l0 s.1 ∧ Srt s.1 a s.2 ∧ a + 1 ≤ s.2 ∧ s.2 ≤ b + 1) (fun s => (b - s.2).toNat) (fun r => Rg a b l0 r ∧ Srt r a b) ?_ ?_ ?_
  · rintro ⟨l, i⟩ ⟨hR, hS, h1, h2⟩
    dsimp only at hR hS h1 h2 ⊢
    have hll := hR.len
    by_cases hi : i < b
    · simp only [hi, decide_true, cond_true]
      rw [w64 (show -9223372036854775808 ≤ i + 1 by omega) (by omega)]
      refine loop_then (fun s => Rg a b l0 s.1 ∧ a ≤ s.2 ∧ s.2 ≤ i ∧ ∀ p q, a ≤ p → p < q → q ≤ i → q ≠ s.2 → at' s.1 p ≤ at' s.1 q) (fun s => (s.2 - a).toNat) (fun r => Rg a b l0 r ∧ Srt r a (i + 1)) ?_ ?_ ?_
      · rintro ⟨m, j⟩ ⟨hR', g1, g2, hS'⟩
        dsimp only at hR' g1 g2 hS' ⊢
        have hml := hR'.len
        rw [w64 (show -9223372036854775808 ≤ j - 1 by omega) (by omega)]
        by_cases hj : a < j
        · have r1 : idx m j = some (at' m j) := idx_at (by omega) (by omega)
          have r2 : idx m (j - 1) = some (at' m (j - 1)) := idx_at (by omega) (by omega)
          have r3 : ∀ x, idx (m.set j.toNat x) (j - 1) = some (at' (m.set j.toNat x) (j - 1)) := fun x => idx_set_at (by omega) (by omega)
          by_cases hlt : at' m j < at' m (j - 1)
          · refine ⟨.inl (sw m j (j - 1), j - 1), ?_, ⟨hR'.trans (Rg.swap ha (by omega) (by omega) (by omega) (by omega) (by omega)), by dsimp only; omega, by dsimp only; omega, ?_⟩, by dsimp only; omega⟩
            · simp only [r1, r2, r3, hj, less_eq, hlt, decide_true, cond_true, Option.bind_some]
              rfl
            · intro p q k1 k2 k3 k4
              dsimp only at k4 ⊢
              rw [sw_at (by omega) (by omega) (by omega) (by omega) (by omega), sw_at (by omega) (by omega) (by omega) (by omega) (by omega)]
              by_cases c1 : q = j
              · subst c1
                rw [if_neg (show ¬ q = q - 1 by omega), if_pos rfl]
                by_cases c2 : p = q - 1
                · rw [if_pos c2]; omega
                · rw [if_neg c2, if_neg (by omega)]
                  exact hS' p (q - 1) k1 (by omega) (by omega) (by omega)
              · rw [if_neg (show ¬ q = j - 1 by omega), if_neg c1]
                by_cases c2 : p = j - 1
                · rw [if_pos c2]
                  exact hS' j q (by omega) (by omega) k3 c1
                · rw [if_neg c2]
                  by_cases c3 : p = j
                  · rw [if_pos c3]
                    exact hS' (j - 1) q (by omega) (by omega) k3 c1
                  · rw [if_neg c3]
                    exact hS' p q k1 k2 k3 c1
          · refine ⟨.inr m, ?_, hR', ?_⟩
            · simp only [r1, r2, hj, less_eq, hlt, decide_true, decide_false, cond_true, cond_false, Option.bind_some]
            · intro p q k1 k2 k3
              by_cases c1 : q = j
              · subst c1
                by_cases c2 : p = q - 1
                · subst c2; omega
                · have := hS' p (q - 1) k1 (by omega) (by omega) (by omega)
                  omega
              · exact hS' p q k1 k2 (by omega) c1
        · refine ⟨.inr m, ?_, hR', ?_⟩
          · simp only [hj, decide_false, cond_false, Option.bind_some]
          · intro p q k1 k2 k3
            exact hS' p q k1 k2 (by omega) (by omega)
      · exact ⟨hR, by dsimp only; omega, Int.le_refl _, fun p q k1 k2 k3 k4 => hS p q k1 k2 (by dsimp only at k4 ⊢; omega)⟩
      · rintro r ⟨hR', hS'⟩
        exact ⟨.inl (r, i + 1), rfl, ⟨hR', hS', by dsimp only; omega, by dsimp only; omega⟩, by dsimp only; omega⟩
    · refine ⟨.inr l, by simp only [hi, decide_false, cond_false], hR, ?_⟩
      intro p q k1 k2 k3
      exact hS p q k1 k2 (by omega)
  · exact ⟨Rg.refl _ _ _, fun p q k1 k2 k3 => by dsimp only at k3; omega, by dsimp only; omega, by dsimp only; omega⟩
  · rintro r hr
    exact ⟨r, rfl, hr⟩
end Go.Sx

namespace Go.Sx
theorem reverseRange_spec (l0 : List Int) (a b : Int) (ha : 0 ≤ a) (hab : a ≤ b) (hb : b ≤ l0.length) (hlen : l0.length ≤ 1000000) :
    ∃ l', D.slices_reverseRangeOrdered_int64 l0 a b = some l' ∧ Rg a b l0 l' := by
  unfold D.slices_reverseRangeOrdered_int64
  rw [w64 (show -9223372036854775808 ≤ b - 1 by omega) (by omega)]
  refine loop_then (fun s => Rg a b l0 s.1 ∧ a ≤ s.2.1 ∧ s.2.1 ≤ b ∧ s.2.2 < b ∧ a - 1 ≤ s.2.2) (fun s => (s.2.2 - s.2.1).toNat) (fun r => Rg a b l0 r) ?_ ?_ ?_
  · rintro ⟨l, i, j⟩ ⟨hR, h1, h2, h3, h4⟩
    dsimp only at hR h1 h2 h3 h4 ⊢
    have hll := hR.len
    by_cases hi : i < j
    · have r1 : idx l i = some (at' l i) := idx_at (by omega) (by omega)
      have r2 : idx l j = some (at' l j) := idx_at (by omega) (by omega)
      have r3 : ∀ x, idx (l.set i.toNat x) j = some (at' (l.set i.toNat x) j) := fun x => idx_set_at (by omega) (by omega)
      rw [w64 (show -9223372036854775808 ≤ i + 1 by omega) (by omega), w64 (show -9223372036854775808 ≤ j - 1 by omega) (by omega)]
      refine ⟨.inl (sw l i j, i + 1, j - 1), ?_, ⟨hR.trans (Rg.swap ha (by omega) (by omega) (by omega) (by omega) (by omega)), by dsimp only; omega, by dsimp only; omega, by dsimp only; omega, by dsimp only; omega⟩, by dsimp only; omega⟩
      simp only [r1, r2, r3, hi, decide_true, cond_true, Option.bind_some]
      rfl
    · exact ⟨.inr l, by simp only [hi, decide_false, cond_false], hR⟩
  · exact ⟨Rg.refl _ _ _, by dsimp only; omega, by dsimp only; omega, by dsimp only; omega, by dsimp only; omega⟩
  · rintro r hr
    exact ⟨r, rfl, hr⟩

/-- up, while what is read is less than the pivot -/
theorem scanUp {β : Type} {k : Int → Option β} {Q : β → Prop} (l : List Int) (a hi i0 : Int) (ha : 0 ≤ a) (ha' : a < l.length) (h0 : 0 ≤ i0) (h1 : i0 ≤ hi + 1) (h2 : hi < l.length) (hlen : l.length ≤ 1000000)
    (hk : ∀ i, i0 ≤ i → i ≤ hi + 1 → (∀ q, i0 ≤ q → q < i → at' l q < at' l a) → (i ≤ hi → ¬ at' l i < at' l a) → ∃ y, k i = some y ∧ Q y) :
    ∃ y, (loopF (σ := Int) (ρ := (Int)) (fun (x : Int) => (cond (decide (x ≤ hi)) ((idx l x).bind fun e => (idx l a).bind fun e' => (D.cmp_Less_int64 e e').bind fun y => some y) (some false)).bind fun b => cond b (some (.inl (IntKind.i64.wrap (x + 1)))) (some (.inr x))) i0).bind k = some y ∧ Q y := by
  refine loop_then (fun i => i0 ≤ i ∧ i ≤ hi + 1 ∧ ∀ q, i0 ≤ q → q < i → at' l q < at' l a) (fun i => (hi + 1 - i).toNat) (fun i => i0 ≤ i ∧ i ≤ hi + 1 ∧ (∀ q, i0 ≤ q → q < i → at' l q < at' l a) ∧ (i ≤ hi → ¬ at' l i < at' l a)) ?_ ?_ ?_
  · rintro i ⟨g1, g2, g3⟩
    by_cases hi' : i ≤ hi
    · have r1 : idx l i = some (at' l i) := idx_at (by omega) (by omega)
      have r2 : idx l a = some (at' l a) := idx_at (by omega) (by omega)
      by_cases hlt : at' l i < at' l a
      · refine ⟨.inl (i + 1), ?_, ⟨by omega, by omega, fun q q1 q2 => ?_⟩, by dsimp only; omega⟩
        · simp only [r1, r2, hi', less_eq, hlt, decide_true, cond_true, Option.bind_some]
          rw [w64 (by omega) (by omega)]
        · by_cases e : q = i
          · rw [e]; exact hlt
          · exact g3 q q1 (by omega)
      · exact ⟨.inr i, by simp only [r1, r2, hi', less_eq, hlt, decide_true, decide_false, cond_true, cond_false, Option.bind_some], g1, g2, g3, fun _ => hlt⟩
    · exact ⟨.inr i, by simp only [hi', decide_false, cond_false, Option.bind_some], g1, g2, g3, fun h => absurd h hi'⟩
  · exact ⟨Int.le_refl _, h1, fun q q1 q2 => by omega⟩
  · rintro i ⟨g1, g2, g3, g4⟩
    exact hk i g1 g2 g3 g4

/-- down, while what is read is not less than the pivot -/
theorem scanDown {β : Type} {k : Int → Option β} {Q : β → Prop} (l : List Int) (a lo j0 : Int) (ha : 0 ≤ a) (ha' : a < l.length) (h0 : 0 ≤ lo) (h1 : lo ≤ j0 + 1) (h2 : j0 < l.length) (hlen : l.length ≤ 1000000)
    (hk : ∀ j, lo ≤ j + 1 → j ≤ j0 → (∀ q, j < q → q ≤ j0 → ¬ at' l q < at' l a) → (lo ≤ j → at' l j < at' l a) → ∃ y, k j = some y ∧ Q y) :
    ∃ y, (loopF (σ := Int) (ρ := (Int)) (fun (x : Int) => (cond (decide (lo ≤ x)) ((idx l x).bind fun e => (idx l a).bind fun e' => (D.cmp_Less_int64 e e').bind fun y => some (!y)) (some false)).bind fun b => cond b (some (.inl (IntKind.i64.wrap (x - 1)))) (some (.inr x))) j0).bind k = some y ∧ Q y := by
  refine loop_then (fun j => lo ≤ j + 1 ∧ j ≤ j0 ∧ ∀ q, j < q → q ≤ j0 → ¬ at' l q < at' l a) (fun j => (j + 1 - lo).toNat) (fun j => lo ≤ j + 1 ∧ j ≤ j0 ∧ (∀ q, j < q → q ≤ j0 → ¬ at' l q < at' l a) ∧ (lo ≤ j → at' l j < at' l a)) ?_ ?_ ?_
  · rintro j ⟨g1, g2, g3⟩
    by_cases hi' : lo ≤ j
    · have r1 : idx l j = some (at' l j) := idx_at (by omega) (by omega)
      have r2 : idx l a = some (at' l a) := idx_at (by omega) (by omega)
      by_cases hlt : at' l j < at' l a
      · exact ⟨.inr j, by simp only [r1, r2, hi', less_eq, hlt, decide_true, Bool.not_true, cond_true, cond_false, Option.bind_some], g1, g2, g3, fun _ => hlt⟩
      · refine ⟨.inl (j - 1), ?_, ⟨by omega, by omega, fun q q1 q2 => ?_⟩, by dsimp only; omega⟩
        · simp only [r1, r2, hi', less_eq, hlt, decide_true, decide_false, Bool.not_false, cond_true, Option.bind_some]
          rw [w64 (by omega) (by omega)]
        · by_cases e : q = j
          · rw [e]; exact hlt
          · exact g3 q (by omega) q2
    · exact ⟨.inr j, by simp only [hi', decide_false, cond_false, Option.bind_some], g1, g2, g3, fun h => absurd h hi'⟩
  · exact ⟨h1, Int.le_refl _, fun q q1 q2 => by omega⟩
  · rintro j ⟨g1, g2, g3, g4⟩
    exact hk j g1 g2 g3 g4

/-- what a partition comes to -/
structure Parted (l0 l' : List Int) (a b mid : Int) : Prop where
  rg : Rg a b l0 l'
  lo : a ≤ mid
  hi : mid < b
  left : ∀ k, a ≤ k → k < mid → at' l' k ≤ at' l' mid
  right : ∀ k, mid < k → k < b → at' l' mid ≤ at' l' k

theorem partition_spec (l0 : List Int) (a b p : Int) (ha : 0 ≤ a) (hb : b ≤ l0.length) (hlen : l0.length ≤ 1000000) (hp : a ≤ p) (hp' : p < b) :
    ∃ y, D.slices_partitionOrdered_int64 l0 a b p = some y ∧ Parted l0 y.2.2 a b y.1 := by
  unfold D.slices_partitionOrdered_int64
  have r1 : idx l0 p = some (at' l0 p) := idx_at (by omega) (by omega)
  have r2 : idx l0 a = some (at' l0 a) := idx_at (by omega) (by omega)
  have r3 : ∀ x, idx (l0.set a.toNat x) p = some (at' (l0.set a.toNat x) p) := fun x => idx_set_at (by omega) (by omega)
  simp only [r1, r2, r3, Option.bind_some]
  rw [show (l0.set a.toNat (at' l0 p)).set p.toNat (at' l0 a) = sw l0 a p from rfl]
  have hR0 : Rg a b l0 (sw l0 a p) := Rg.swap ha hb (by omega) (by omega) hp hp'
  generalize sw l0 a p = m0 at hR0 ⊢
  have hm0 := hR0.len
  rw [w64 (show -9223372036854775808 ≤ b - 1 by omega) (by omega), w64 (show -9223372036854775808 ≤ a + 1 by omega) (by omega)]
  refine scanUp m0 a (b - 1) (a + 1) ha (by omega) (by omega) (by omega) (by omega) (by omega) (fun i i1 i2 i3 i4 => ?_)
  refine scanDown m0 a i (b - 1) ha (by omega) (by omega) (by omega) (by omega) (by omega) (fun j j1 j2 j3 j4 => ?_)
  have q1 : idx m0 a = some (at' m0 a) := idx_at (by omega) (by omega)
  have q2 : idx m0 j = some (at' m0 j) := idx_at (by omega) (by omega)
  by_cases hij : j < i
  · have q3 : ∀ x, idx (m0.set j.toNat x) a = some (at' (m0.set j.toNat x) a) := fun x => idx_set_at (by omega) (by omega)
    refine ⟨(j, true, sw m0 j a), ?_, ⟨hR0.trans (Rg.swap ha (by omega) (by omega) (by omega) (by omega) (by omega)), by dsimp only; omega, by dsimp only; omega, fun k k1 k2 => ?_, fun k k1 k2 => ?_⟩⟩
    · simp only [q1, q2, q3, hij, decide_true, cond_true, Option.bind_some]
      rfl
    · dsimp only at k1 k2 ⊢
      rw [sw_at (by omega) (by omega) (by omega) (by omega) (by omega), sw_at (by omega) (by omega) (by omega) (by omega) (by omega)]
      rw [if_neg (show ¬ j = a by omega), if_pos rfl]
      by_cases e : k = a
      · rw [if_pos e]
        have := i3 j (by omega) (by omega); omega
      · rw [if_neg e, if_neg (by omega)]
        have := i3 k (by omega) (by omega); omega
    · dsimp only at k1 k2 ⊢
      rw [sw_at (by omega) (by omega) (by omega) (by omega) (by omega), sw_at (by omega) (by omega) (by omega) (by omega) (by omega)]
      rw [if_neg (show ¬ k = a by omega), if_neg (show ¬ k = j by omega)]
      have hk := j3 k (by omega) (by omega)
      by_cases e : j = a
      · rw [if_pos e]; subst e; omega
      · rw [if_neg e, if_pos rfl]; omega
  · have q4 : idx m0 i = some (at' m0 i) := idx_at (by omega) (by omega)
    have q5 : ∀ x, idx (m0.set i.toNat x) j = some (at' (m0.set i.toNat x) j) := fun x => idx_set_at (by omega) (by omega)
    simp only [q1, q2, q4, q5, hij, decide_false, cond_false, Option.bind_some]
    rw [show (m0.set i.toNat (at' m0 j)).set j.toNat (at' m0 i) = sw m0 i j from rfl]
    have hia := i4 (by omega)
    have hja := j4 (by omega)
    have hne : i < j := by
      rcases Int.lt_or_eq_of_le (show i ≤ j by omega) with h | h
      · exact h
      · subst h; exact absurd hja hia
    have hR1 : Rg a b l0 (sw m0 i j) := hR0.trans (Rg.swap ha (by omega) (by omega) (by omega) (by omega) (by omega))
    have ea : at' (sw m0 i j) a = at' m0 a := by rw [sw_at (by omega) (by omega) (by omega) (by omega) (by omega), if_neg (by omega), if_neg (by omega)]
    have hlo : ∀ q, a + 1 ≤ q → q < i + 1 → at' (sw m0 i j) q < at' (sw m0 i j) a := fun q h1 h2 => by
      rw [ea, sw_at (by omega) (by omega) (by omega) (by omega) (by omega), if_neg (by omega)]
      by_cases e : q = i
      · rw [if_pos e]; exact hja
      · rw [if_neg e]; exact i3 q h1 (by omega)
    have hhi : ∀ q, j - 1 < q → q < b → ¬ at' (sw m0 i j) q < at' (sw m0 i j) a := fun q h1 h2 => by
      rw [ea, sw_at (by omega) (by omega) (by omega) (by omega) (by omega)]
      by_cases e : q = j
      · rw [if_pos e]; exact hia
      · rw [if_neg e, if_neg (by omega)]; exact j3 q (by omega) (by omega)
    rw [w64 (show -9223372036854775808 ≤ i + 1 by omega) (by omega), w64 (show -9223372036854775808 ≤ j - 1 by omega) (by omega)]
    generalize sw m0 i j = m1 at hR1 hlo hhi ⊢
    refine loop_then (fun s => Rg a b l0 s.1 ∧ a + 1 ≤ s.2.1 ∧ s.2.1 ≤ s.2.2 + 1 ∧ s.2.2 < b ∧ (∀ q, a + 1 ≤ q → q < s.2.1 → at' s.1 q < at' s.1 a) ∧ (∀ q, s.2.2 < q → q < b → ¬ at' s.1 q < at' s.1 a)) (fun s => (s.2.2 + 1 - s.2.1).toNat)
      (fun s => Rg a b l0 s.1 ∧ a ≤ s.2 ∧ s.2 < b ∧ (∀ q, a + 1 ≤ q → q ≤ s.2 → at' s.1 q < at' s.1 a) ∧ (∀ q, s.2 < q → q < b → ¬ at' s.1 q < at' s.1 a)) ?_ ?_ ?_
    · rintro ⟨m, u, v⟩ ⟨hR, g1, g2, g3, g4, g5⟩
      dsimp only at hR g1 g2 g3 g4 g5 ⊢
      have hml := hR.len
      refine scanUp m a v u ha (by omega) (by omega) (by omega) (by omega) (by omega) (fun i i1 i2 i3 i4 => ?_)
      refine scanDown m a i v ha (by omega) (by omega) (by omega) (by omega) (by omega) (fun j j1 j2 j3 j4 => ?_)
      have f1 : ∀ q, a + 1 ≤ q → q < i → at' m q < at' m a := fun q h1 h2 => by
        by_cases h : q < u
        · exact g4 q h1 h
        · exact i3 q (by omega) h2
      have f2 : ∀ q, j < q → q < b → ¬ at' m q < at' m a := fun q h1 h2 => by
        by_cases h : q ≤ v
        · exact j3 q h1 h
        · exact g5 q (by omega) h2
      by_cases hij : j < i
      · exact ⟨.inr (m, j), by simp only [hij, decide_true, cond_true], hR, by dsimp only; omega, by dsimp only; omega, fun q h1 h2 => f1 q h1 (by dsimp only at h2; omega), f2⟩
      · have t1 : idx m i = some (at' m i) := idx_at (by omega) (by omega)
        have t2 : idx m j = some (at' m j) := idx_at (by omega) (by omega)
        have t3 : ∀ x, idx (m.set i.toNat x) j = some (at' (m.set i.toNat x) j) := fun x => idx_set_at (by omega) (by omega)
        have hia := i4 (by omega)
        have hja := j4 (by omega)
        have hne : i < j := by
          rcases Int.lt_or_eq_of_le (show i ≤ j by omega) with h | h
          · exact h
          · subst h; exact absurd hja hia
        have ea : at' (sw m i j) a = at' m a := by rw [sw_at (by omega) (by omega) (by omega) (by omega) (by omega), if_neg (by omega), if_neg (by omega)]
        rw [w64 (show -9223372036854775808 ≤ i + 1 by omega) (by omega), w64 (show -9223372036854775808 ≤ j - 1 by omega) (by omega)]
        refine ⟨.inl (sw m i j, i + 1, j - 1), ?_, ⟨hR.trans (Rg.swap ha (by omega) (by omega) (by omega) (by omega) (by omega)), by dsimp only; omega, by dsimp only; omega, by dsimp only; omega, fun q h1 h2 => ?_, fun q h1 h2 => ?_⟩, by dsimp only; omega⟩
        · simp only [t1, t2, t3, hij, decide_false, cond_false, Option.bind_some]
          rfl
        · dsimp only at h2 ⊢
          rw [ea, sw_at (by omega) (by omega) (by omega) (by omega) (by omega), if_neg (by omega)]
          by_cases e : q = i
          · rw [if_pos e]; exact hja
          · rw [if_neg e]; exact f1 q h1 (by omega)
        · dsimp only at h1 ⊢
          rw [ea, sw_at (by omega) (by omega) (by omega) (by omega) (by omega)]
          by_cases e : q = j
          · rw [if_pos e]; exact hia
          · rw [if_neg e, if_neg (by omega)]; exact f2 q (by omega) h2
    · exact ⟨hR1, by dsimp only; omega, by dsimp only; omega, by dsimp only; omega, hlo, hhi⟩
    · rintro ⟨m, v⟩ ⟨hR, g1, g2, g3, g4⟩
      dsimp only at hR g1 g2 g3 g4 ⊢
      have hml := hR.len
      have t1 : idx m a = some (at' m a) := idx_at (by omega) (by omega)
      have t2 : idx m v = some (at' m v) := idx_at (by omega) (by omega)
      have t3 : ∀ x, idx (m.set v.toNat x) a = some (at' (m.set v.toNat x) a) := fun x => idx_set_at (by omega) (by omega)
      refine ⟨(v, false, sw m v a), ?_, ⟨hR.trans (Rg.swap ha (by omega) (by omega) (by omega) (by omega) (by omega)), g1, g2, fun k k1 k2 => ?_, fun k k1 k2 => ?_⟩⟩
      · simp only [t1, t2, t3, Option.bind_some]
        rfl
      · dsimp only at k1 k2 ⊢
        rw [sw_at (by omega) (by omega) (by omega) (by omega) (by omega), sw_at (by omega) (by omega) (by omega) (by omega) (by omega)]
        rw [if_neg (show ¬ v = a by omega), if_pos rfl]
        by_cases e : k = a
        · rw [if_pos e]
          have := g3 v (by omega) (by omega); omega
        · rw [if_neg e, if_neg (by omega)]
          have := g3 k (by omega) (by omega); omega
      · dsimp only at k1 k2 ⊢
        rw [sw_at (by omega) (by omega) (by omega) (by omega) (by omega), sw_at (by omega) (by omega) (by omega) (by omega) (by omega)]
        rw [if_neg (show ¬ k = a by omega), if_neg (show ¬ k = v by omega)]
        have hk := g4 k (by omega) (by omega)
        by_cases e : v = a
        · rw [if_pos e]; subst e; omega
        · rw [if_neg e, if_pos rfl]; omega
end Go.Sx

namespace Go.Sx
/-- up, while the pivot is not less than what is read -/
theorem scanUp2 {β : Type} {k : Int → Option β} {Q : β → Prop} (l : List Int) (a hi i0 : Int) (ha : 0 ≤ a) (ha' : a < l.length) (h0 : 0 ≤ i0) (h1 : i0 ≤ hi + 1) (h2 : hi < l.length) (hlen : l.length ≤ 1000000)
    (hk : ∀ i, i0 ≤ i → i ≤ hi + 1 → (∀ q, i0 ≤ q → q < i → ¬ at' l a < at' l q) → (i ≤ hi → at' l a < at' l i) → ∃ y, k i = some y ∧ Q y) :
    ∃ y, (loopF (σ := Int) (ρ := (Int)) (fun (x : Int) => (cond (decide (x ≤ hi)) ((idx l a).bind fun e => (idx l x).bind fun e' => (D.cmp_Less_int64 e e').bind fun y => some (!y)) (some false)).bind fun b => cond b (some (.inl (IntKind.i64.wrap (x + 1)))) (some (.inr x))) i0).bind k = some y ∧ Q y := by
  refine loop_then (fun i => i0 ≤ i ∧ i ≤ hi + 1 ∧ ∀ q, i0 ≤ q → q < i → ¬ at' l a < at' l q) (fun i => (hi + 1 - i).toNat) (fun i => i0 ≤ i ∧ i ≤ hi + 1 ∧ (∀ q, i0 ≤ q → q < i → ¬ at' l a < at' l q) ∧ (i ≤ hi → at' l a < at' l i)) ?_ ?_ ?_
  · rintro i ⟨g1, g2, g3⟩
    by_cases hi' : i ≤ hi
    · have r1 : idx l i = some (at' l i) := idx_at (by omega) (by omega)
      have r2 : idx l a = some (at' l a) := idx_at (by omega) (by omega)
      by_cases hlt : at' l a < at' l i
      · exact ⟨.inr i, by simp only [r1, r2, hi', less_eq, hlt, decide_true, Bool.not_true, cond_true, cond_false, Option.bind_some], g1, g2, g3, fun _ => hlt⟩
      · refine ⟨.inl (i + 1), ?_, ⟨by omega, by omega, fun q q1 q2 => ?_⟩, by dsimp only; omega⟩
        · simp only [r1, r2, hi', less_eq, hlt, decide_true, decide_false, Bool.not_false, cond_true, Option.bind_some]
          rw [w64 (by omega) (by omega)]
        · by_cases e : q = i
          · rw [e]; exact hlt
          · exact g3 q q1 (by omega)
    · exact ⟨.inr i, by simp only [hi', decide_false, cond_false, Option.bind_some], g1, g2, g3, fun h => absurd h hi'⟩
  · exact ⟨Int.le_refl _, h1, fun q q1 q2 => by omega⟩
  · rintro i ⟨g1, g2, g3, g4⟩
    exact hk i g1 g2 g3 g4

/-- down, while the pivot is less than what is read -/
theorem scanDown2 {β : Type} {k : Int → Option β} {Q : β → Prop} (l : List Int) (a lo j0 : Int) (ha : 0 ≤ a) (ha' : a < l.length) (h0 : 0 ≤ lo) (h1 : lo ≤ j0 + 1) (h2 : j0 < l.length) (hlen : l.length ≤ 1000000)
    (hk : ∀ j, lo ≤ j + 1 → j ≤ j0 → (∀ q, j < q → q ≤ j0 → at' l a < at' l q) → (lo ≤ j → ¬ at' l a < at' l j) → ∃ y, k j = some y ∧ Q y) :
    ∃ y, (loopF (σ := Int) (ρ := (Int)) (fun (x : Int) => (cond (decide (lo ≤ x)) ((idx l a).bind fun e => (idx l x).bind fun e' => (D.cmp_Less_int64 e e').bind fun y => some y) (some false)).bind fun b => cond b (some (.inl (IntKind.i64.wrap (x - 1)))) (some (.inr x))) j0).bind k = some y ∧ Q y := by
  refine loop_then (fun j => lo ≤ j + 1 ∧ j ≤ j0 ∧ ∀ q, j < q → q ≤ j0 → at' l a < at' l q) (fun j => (j + 1 - lo).toNat) (fun j => lo ≤ j + 1 ∧ j ≤ j0 ∧ (∀ q, j < q → q ≤ j0 → at' l a < at' l q) ∧ (lo ≤ j → ¬ at' l a < at' l j)) ?_ ?_ ?_
  · rintro j ⟨g1, g2, g3⟩
    by_cases hi' : lo ≤ j
    · have r1 : idx l j = some (at' l j) := idx_at (by omega) (by omega)
      have r2 : idx l a = some (at' l a) := idx_at (by omega) (by omega)
      by_cases hlt : at' l a < at' l j
      · refine ⟨.inl (j - 1), ?_, ⟨by omega, by omega, fun q q1 q2 => ?_⟩, by dsimp only; omega⟩
        · simp only [r1, r2, hi', less_eq, hlt, decide_true, cond_true, Option.bind_some]
          rw [w64 (by omega) (by omega)]
        · by_cases e : q = j
          · rw [e]; exact hlt
          · exact g3 q (by omega) q2
      · exact ⟨.inr j, by simp only [r1, r2, hi', less_eq, hlt, decide_true, decide_false, cond_true, cond_false, Option.bind_some], g1, g2, g3, fun _ => hlt⟩
    · exact ⟨.inr j, by simp only [hi', decide_false, cond_false, Option.bind_some], g1, g2, g3, fun h => absurd h hi'⟩
  · exact ⟨h1, Int.le_refl _, fun q q1 q2 => by omega⟩
  · rintro j ⟨g1, g2, g3, g4⟩
    exact hk j g1 g2 g3 g4

theorem partitionEqual_spec (l0 : List Int) (a b p : Int) (ha : 0 ≤ a) (hb : b ≤ l0.length) (hlen : l0.length ≤ 1000000) (hp : a ≤ p) (hp' : p < b) :
    ∃ y, D.slices_partitionEqualOrdered_int64 l0 a b p = some y ∧ Rg a b l0 y.2 ∧ a < y.1 ∧ y.1 ≤ b ∧ (∀ k, a ≤ k → k < y.1 → at' y.2 k ≤ at' l0 p) ∧ (∀ k, y.1 ≤ k → k < b → at' l0 p < at' y.2 k) := by
  unfold D.slices_partitionEqualOrdered_int64
  have r1 : idx l0 p = some (at' l0 p) := idx_at (by omega) (by omega)
  have r2 : idx l0 a = some (at' l0 a) := idx_at (by omega) (by omega)
  have r3 : ∀ x, idx (l0.set a.toNat x) p = some (at' (l0.set a.toNat x) p) := fun x => idx_set_at (by omega) (by omega)
  simp only [r1, r2, r3, Option.bind_some]
  rw [show (l0.set a.toNat (at' l0 p)).set p.toNat (at' l0 a) = sw l0 a p from rfl]
  have hR0 : Rg a b l0 (sw l0 a p) := Rg.swap ha hb (by omega) (by omega) hp hp'
  have ep : at' (sw l0 a p) a = at' l0 p := by
    rw [sw_at (by omega) (by omega) (by omega) (by omega) (by omega)]
    by_cases e : a = p
    · rw [if_pos e, e]
    · rw [if_neg e, if_pos rfl]
  generalize sw l0 a p = m0 at hR0 ep ⊢
  rw [w64 (show -9223372036854775808 ≤ b - 1 by omega) (by omega), w64 (show -9223372036854775808 ≤ a + 1 by omega) (by omega)]
  refine loop_then (fun s => Rg a b l0 s.1 ∧ a + 1 ≤ s.2.1 ∧ s.2.1 ≤ s.2.2 + 1 ∧ s.2.2 < b ∧ at' s.1 a = at' l0 p ∧ (∀ q, a + 1 ≤ q → q < s.2.1 → ¬ at' s.1 a < at' s.1 q) ∧ (∀ q, s.2.2 < q → q < b → at' s.1 a < at' s.1 q)) (fun s => (s.2.2 + 1 - s.2.1).toNat)
    (fun s => Rg a b l0 s.1 ∧ a + 1 ≤ s.2 ∧ s.2 ≤ b ∧ at' s.1 a = at' l0 p ∧ (∀ q, a + 1 ≤ q → q < s.2 → ¬ at' s.1 a < at' s.1 q) ∧ (∀ q, s.2 ≤ q → q < b → at' s.1 a < at' s.1 q)) ?_ ?_ ?_
  · rintro ⟨m, u, v⟩ ⟨hR, g1, g2, g3, g6, g4, g5⟩
    dsimp only at hR g1 g2 g3 g4 g5 g6 ⊢
    have hml := hR.len
    refine scanUp2 m a v u ha (by omega) (by omega) (by omega) (by omega) (by omega) (fun i i1 i2 i3 i4 => ?_)
    refine scanDown2 m a i v ha (by omega) (by omega) (by omega) (by omega) (by omega) (fun j j1 j2 j3 j4 => ?_)
    have f1 : ∀ q, a + 1 ≤ q → q < i → ¬ at' m a < at' m q := fun q h1 h2 => by
      by_cases h : q < u
      · exact g4 q h1 h
      · exact i3 q (by omega) h2
    have f2 : ∀ q, j < q → q < b → at' m a < at' m q := fun q h1 h2 => by
      by_cases h : q ≤ v
      · exact j3 q h1 h
      · exact g5 q (by omega) h2
    by_cases hij : j < i
    · exact ⟨.inr (m, i), by simp only [hij, decide_true, cond_true], hR, by dsimp only; omega, by dsimp only; omega, g6, f1, fun q h1 h2 => f2 q (by dsimp only at h1; omega) h2⟩
    · have t1 : idx m i = some (at' m i) := idx_at (by omega) (by omega)
      have t2 : idx m j = some (at' m j) := idx_at (by omega) (by omega)
      have t3 : ∀ x, idx (m.set i.toNat x) j = some (at' (m.set i.toNat x) j) := fun x => idx_set_at (by omega) (by omega)
      have hia := i4 (by omega)
      have hja := j4 (by omega)
      have hne : i < j := by
        rcases Int.lt_or_eq_of_le (show i ≤ j by omega) with h | h
        · exact h
        · subst h; exact absurd hia hja
      have ea : at' (sw m i j) a = at' m a := by rw [sw_at (by omega) (by omega) (by omega) (by omega) (by omega), if_neg (by omega), if_neg (by omega)]
      rw [w64 (show -9223372036854775808 ≤ i + 1 by omega) (by omega), w64 (show -9223372036854775808 ≤ j - 1 by omega) (by omega)]
      refine ⟨.inl (sw m i j, i + 1, j - 1), ?_, ⟨hR.trans (Rg.swap ha (by omega) (by omega) (by omega) (by omega) (by omega)), by dsimp only; omega, by dsimp only; omega, by dsimp only; omega, by dsimp only; rw [ea]; exact g6, fun q h1 h2 => ?_, fun q h1 h2 => ?_⟩, by dsimp only; omega⟩
      · simp only [t1, t2, t3, hij, decide_false, cond_false, Option.bind_some]
        rfl
      · dsimp only at h2 ⊢
        rw [ea, sw_at (by omega) (by omega) (by omega) (by omega) (by omega), if_neg (by omega)]
        by_cases e : q = i
        · rw [if_pos e]; exact hja
        · rw [if_neg e]; exact f1 q h1 (by omega)
      · dsimp only at h1 ⊢
        rw [ea, sw_at (by omega) (by omega) (by omega) (by omega) (by omega)]
        by_cases e : q = j
        · rw [if_pos e]; exact hia
        · rw [if_neg e, if_neg (by omega)]; exact f2 q (by omega) h2
  · exact ⟨hR0, by dsimp only; omega, by dsimp only; omega, by dsimp only; omega, ep, fun q h1 h2 => by dsimp only at h2; omega, fun q h1 h2 => by dsimp only at h1; omega⟩
  · rintro ⟨m, v⟩ ⟨hR, g1, g2, g3, g4, g5⟩
    refine ⟨(v, m), rfl, hR, by dsimp only at *; omega, g2, fun k k1 k2 => ?_, fun k k1 k2 => ?_⟩
    · dsimp only at *
      by_cases e : k = a
      · rw [e, g3]; exact Int.le_refl _
      · have := g4 k (by omega) k2; omega
    · dsimp only at *
      have := g5 k k1 k2; omega

theorem order2_spec (l : List Int) (a b s : Int) (ha : 0 ≤ a) (ha' : a < l.length) (hb : 0 ≤ b) (hb' : b < l.length) :
    ∃ y, D.slices_order2Ordered_int64 l a b s = some y ∧ y.2.2.1 = l ∧ ((y.1 = a ∧ y.2.1 = b) ∨ (y.1 = b ∧ y.2.1 = a)) := by
  have r1 : idx l a = some (at' l a) := idx_at ha ha'
  have r2 : idx l b = some (at' l b) := idx_at hb hb'
  unfold D.slices_order2Ordered_int64
  simp only [r1, r2, less_eq, Option.bind_some]
  by_cases h : at' l b < at' l a
  · simp only [h, decide_true, cond_true]; exact ⟨_, rfl, rfl, .inr ⟨rfl, rfl⟩⟩
  · simp only [h, decide_false, cond_false]; exact ⟨_, rfl, rfl, .inl ⟨rfl, rfl⟩⟩

theorem median_spec (l : List Int) (a b c s : Int) (ha : 0 ≤ a) (ha' : a < l.length) (hb : 0 ≤ b) (hb' : b < l.length) (hc : 0 ≤ c) (hc' : c < l.length) :
    ∃ y, D.slices_medianOrdered_int64 l a b c s = some y ∧ y.2.1 = l ∧ (y.1 = a ∨ y.1 = b ∨ y.1 = c) := by
  unfold D.slices_medianOrdered_int64
  obtain ⟨y1, h1, e1, c1⟩ := order2_spec l a b s ha ha' hb hb'
  rw [h1, Option.bind_some, e1]
  have b1 : 0 ≤ y1.2.1 ∧ y1.2.1 < l.length ∧ 0 ≤ y1.1 ∧ y1.1 < l.length := by rcases c1 with ⟨c, d⟩ | ⟨c, d⟩ <;> rw [c, d] <;> exact ⟨by assumption, by assumption, by assumption, by assumption⟩
  obtain ⟨y2, h2, e2, c2⟩ := order2_spec l y1.2.1 c y1.2.2.2 b1.1 b1.2.1 hc hc'
  rw [h2, Option.bind_some, e2]
  have b2 : 0 ≤ y2.1 ∧ y2.1 < l.length := by rcases c2 with ⟨c, d⟩ | ⟨c, d⟩ <;> rw [c] <;> exact ⟨by omega, by omega⟩
  obtain ⟨y3, h3, e3, c3⟩ := order2_spec l y1.1 y2.1 y2.2.2.2 b1.2.2.1 b1.2.2.2 b2.1 b2.2
  rw [h3, Option.bind_some]
  refine ⟨_, rfl, e3, ?_⟩
  dsimp only
  omega

theorem choosePivot_spec (l : List Int) (a b : Int) (ha : 0 ≤ a) (hb : b ≤ l.length) (h8 : 8 ≤ b - a) (h50 : b - a < 50) (hlen : l.length ≤ 1000000) :
    ∃ y, D.slices_choosePivotOrdered_int64 l a b = some y ∧ y.2.2 = l ∧ a ≤ y.1 ∧ y.1 < b := by
  unfold D.slices_choosePivotOrdered_int64
  rw [w64 (show -9223372036854775808 ≤ b - a by omega) (by omega)]
  have e4 : (b - a).tdiv 4 = (b - a) / 4 := Int.tdiv_eq_ediv_of_nonneg (by omega)
  rw [e4, w64 (show -9223372036854775808 ≤ (b - a) / 4 by omega) (by omega)]
  rw [w64 (show -9223372036854775808 ≤ (b - a) / 4 * 1 by omega) (by omega), w64 (show -9223372036854775808 ≤ (b - a) / 4 * 2 by omega) (by omega), w64 (show -9223372036854775808 ≤ (b - a) / 4 * 3 by omega) (by omega)]
  rw [w64 (show -9223372036854775808 ≤ a + (b - a) / 4 * 1 by omega) (by omega), w64 (show -9223372036854775808 ≤ a + (b - a) / 4 * 2 by omega) (by omega), w64 (show -9223372036854775808 ≤ a + (b - a) / 4 * 3 by omega) (by omega)]
  simp only [h8, show ¬ (50 ≤ b - a) by omega, decide_true, decide_false, cond_true, cond_false, Option.bind_some]
  obtain ⟨y, h1, e1, c1⟩ := median_spec l (a + (b - a) / 4 * 1) (a + (b - a) / 4 * 2) (a + (b - a) / 4 * 3) 0 (by omega) (by omega) (by omega) (by omega) (by omega) (by omega)
  rw [h1, Option.bind_some, e1]
  have hy : a ≤ y.1 ∧ y.1 < b := by omega
  cases (y.2.2 == 0)
  · cases (y.2.2 == 12)
    · exact ⟨_, rfl, rfl, hy⟩
    · exact ⟨_, rfl, rfl, hy⟩
  · exact ⟨_, rfl, rfl, hy⟩

theorem partialInsertion_spec (l : List Int) (a b : Int) (ha : 0 ≤ a) (hab : a < b) (hb : b ≤ l.length) (h50 : b - a < 50) (hlen : l.length ≤ 1000000) :
    ∃ y, D.slices_partialInsertionSortOrdered_int64 l a b = some y ∧ y.2 = l ∧ (y.1 = true → Srt l a b) := by
  unfold D.slices_partialInsertionSortOrdered_int64
  rw [w64 (show -9223372036854775808 ≤ a + 1 by omega) (by omega)]
  refine loop_then (fun s => s = (l, a + 1, 0)) (fun _ => 0) (fun r => ∃ y : Bool × List Int, r = .inr y ∧ y.2 = l ∧ (y.1 = true → Srt l a b)) ?_ rfl ?_
  · rintro s rfl
    dsimp only
    simp only [show ((0 : Int) < 5) from by decide, decide_true, cond_true]
    refine loop_then (fun i => a + 1 ≤ i ∧ i ≤ b ∧ Srt l a i) (fun i => (b - i).toNat) (fun i => a + 1 ≤ i ∧ i ≤ b ∧ Srt l a i) ?_ ?_ ?_
    · rintro i ⟨g1, g2, g3⟩
      by_cases hi : i < b
      · have r1 : idx l i = some (at' l i) := idx_at (by omega) (by omega)
        have r2 : idx l (i - 1) = some (at' l (i - 1)) := idx_at (by omega) (by omega)
        have e1 : IntKind.i64.wrap (i - 1) = i - 1 := w64 (by omega) (by omega)
        by_cases hlt : at' l i < at' l (i - 1)
        · exact ⟨.inr i, by simp only [r1, r2, e1, hi, less_eq, hlt, decide_true, Bool.not_true, cond_true, cond_false, Option.bind_some], g1, g2, g3⟩
        · refine ⟨.inl (i + 1), ?_, ⟨by omega, by omega, fun p q k1 k2 k3 => ?_⟩, by dsimp only; omega⟩
          · simp only [r1, r2, e1, hi, less_eq, hlt, decide_true, decide_false, Bool.not_false, cond_true, Option.bind_some]
            rw [w64 (by omega) (by omega)]
          · by_cases e : q = i
            · subst e
              by_cases e2 : p = q - 1
              · subst e2; omega
              · have := g3 p (q - 1) k1 (by omega) (by omega); omega
            · exact g3 p q k1 k2 (by omega)
      · exact ⟨.inr i, by simp only [hi, decide_false, cond_false, Option.bind_some], g1, g2, g3⟩
    · exact ⟨Int.le_refl _, by omega, fun p q k1 k2 k3 => by omega⟩
    · rintro i ⟨g1, g2, g3⟩
      rw [w64 (show -9223372036854775808 ≤ b - a by omega) (by omega)]
      by_cases he : i = b
      · refine ⟨.inr (.inr (true, l)), ?_, _, rfl, rfl, fun _ => by rw [← he]; exact g3⟩
        have : (i == b) = true := by simp [he]
        simp only [this, cond_true]
      · refine ⟨.inr (.inr (false, l)), ?_, _, rfl, rfl, fun h => by cases h⟩
        have : (i == b) = false := by simp [he]
        simp only [this, h50, decide_true, cond_true, cond_false]
  · rintro r ⟨y, rfl, h1, h2⟩
    exact ⟨y, rfl, h1, h2⟩
end Go.Sx

namespace Go.Sx
theorem iand_small (y m : Int) (h0 : 0 ≤ m) (h1 : m < 4294967296) : 0 ≤ iand .u64 y m ∧ iand .u64 y m ≤ m := by
  unfold iand
  have e : (BitVec.ofInt IntKind.u64.bits y &&& BitVec.ofInt IntKind.u64.bits m).toNat ≤ (BitVec.ofInt IntKind.u64.bits m).toNat := by
    rw [BitVec.toNat_and]; exact Nat.and_le_right
  have e2 : (BitVec.ofInt IntKind.u64.bits m).toNat = m.toNat := by
    rw [BitVec.toNat_ofInt]
    show (m % (2 ^ 64 : Nat)).toNat = m.toNat
    congr 1
    omega
  rw [e2] at e
  generalize (BitVec.ofInt IntKind.u64.bits y &&& BitVec.ofInt IntKind.u64.bits m).toNat = t at e
  have : IntKind.u64.wrap (t : Int) = t := by
    simp only [IntKind.wrap, IntKind.bits, IntKind.signed]
    simp
    omega
  rw [this]
  omega

theorem wu64 {x : Int} (h1 : 0 ≤ x) (h2 : x < 18446744073709551616) : IntKind.u64.wrap x = x := by
  simp only [IntKind.wrap, IntKind.bits, IntKind.signed]
  simp
  omega

theorem pow2_spec (n : Int) (h1 : 8 ≤ n) (h2 : n ≤ 16) : ∃ y, D.slices_nextPowerOfTwo n = some y ∧ n < y ∧ y ≤ 2 * n := by
  unfold D.slices_nextPowerOfTwo
  rw [wu64 (by omega) (by omega)]
  have key : ∀ k : Int, k = 8 ∨ k = 9 ∨ k = 10 ∨ k = 11 ∨ k = 12 ∨ k = 13 ∨ k = 14 ∨ k = 15 ∨ k = 16 → k < ishl .u64 1 (Lib.bitLen k.toNat : Nat) ∧ ishl .u64 1 (Lib.bitLen k.toNat : Nat) ≤ 2 * k := by
    rintro k (rfl | rfl | rfl | rfl | rfl | rfl | rfl | rfl | rfl) <;> decide
  obtain ⟨k1, k2⟩ := key n (by omega)
  refine ⟨_, ?_, k1, k2⟩
  unfold D.math_bits_Len
  rw [if_pos (by omega), Option.bind_some]
  have : decide (((Lib.bitLen n.toNat : Nat) : Int) < 0) = false := by simp
  rw [this]
  rfl

theorem breakPatterns_spec (l0 : List Int) (a b : Int) (ha : 0 ≤ a) (hb : b ≤ l0.length) (h8 : 8 ≤ b - a) (h16 : b - a ≤ 16) (hlen : l0.length ≤ 1000000) :
    ∃ l', D.slices_breakPatternsOrdered_int64 l0 a b = some l' ∧ Rg a b l0 l' := by
  unfold D.slices_breakPatternsOrdered_int64
  rw [w64 (show -9223372036854775808 ≤ b - a by omega) (by omega)]
  have e4 : (b - a).tdiv 4 = (b - a) / 4 := Int.tdiv_eq_ediv_of_nonneg (by omega)
  rw [e4, w64 (show -9223372036854775808 ≤ (b - a) / 4 by omega) (by omega)]
  rw [w64 (show -9223372036854775808 ≤ (b - a) / 4 * 2 by omega) (by omega)]
  rw [w64 (show -9223372036854775808 ≤ a + (b - a) / 4 * 2 by omega) (by omega)]
  rw [w64 (show -9223372036854775808 ≤ a + (b - a) / 4 * 2 + 1 by omega) (by omega), w64 (show -9223372036854775808 ≤ a + (b - a) / 4 * 2 - 1 by omega) (by omega)]
  simp only [h8, decide_true, cond_true]
  obtain ⟨y, hy, g1, g2⟩ := pow2_spec (b - a) h8 h16
  rw [hy, Option.bind_some, wu64 (show 0 ≤ y - 1 by omega) (by omega)]
  refine loop_then (fun s => Rg a b l0 s.1 ∧ a + (b - a) / 4 * 2 - 1 ≤ s.2.1 ∧ s.2.1 ≤ a + (b - a) / 4 * 2 + 2) (fun s => (a + (b - a) / 4 * 2 + 2 - s.2.1).toNat) (fun r => Rg a b l0 r) ?_ ?_ ?_
  · rintro ⟨l, i, z⟩ ⟨hR, k1, k2⟩
    dsimp only at hR k1 k2 ⊢
    have hll := hR.len
    by_cases hi : i ≤ a + (b - a) / 4 * 2 + 1
    · simp only [hi, decide_true, cond_true, D.slices_xorshift_Next, Option.bind_some]
      obtain ⟨t1, t2⟩ := iand_small (ixor .u64 (ixor .u64 (ixor .u64 z (ishl .u64 z 13)) (ishr .u64 (ixor .u64 z (ishl .u64 z 13)) 7)) (ishl .u64 (ixor .u64 (ixor .u64 z (ishl .u64 z 13)) (ishr .u64 (ixor .u64 z (ishl .u64 z 13)) 7)) 17)) (y - 1) (by omega) (by omega)
      revert t1 t2
      generalize iand .u64 (ixor .u64 (ixor .u64 (ixor .u64 z (ishl .u64 z 13)) (ishr .u64 (ixor .u64 z (ishl .u64 z 13)) 7)) (ishl .u64 (ixor .u64 (ixor .u64 z (ishl .u64 z 13)) (ishr .u64 (ixor .u64 z (ishl .u64 z 13)) 7)) 17)) (y - 1) = t
      generalize (ixor .u64 (ixor .u64 (ixor .u64 z (ishl .u64 z 13)) (ishr .u64 (ixor .u64 z (ishl .u64 z 13)) 7)) (ishl .u64 (ixor .u64 (ixor .u64 z (ishl .u64 z 13)) (ishr .u64 (ixor .u64 z (ishl .u64 z 13)) 7)) 17)) = z'
      intro t1 t2
      rw [w64 (show -9223372036854775808 ≤ t by omega) (by omega), w64 (show -9223372036854775808 ≤ t - (b - a) by omega) (by omega)]
      have hc : ∃ o, (bif decide (b - a ≤ t) then some (t - (b - a)) else some t) = some o ∧ 0 ≤ o ∧ o < b - a := by
        by_cases h : b - a ≤ t
        · exact ⟨t - (b - a), by simp [h], by omega, by omega⟩
        · exact ⟨t, by simp [h], by omega, by omega⟩
      obtain ⟨o, ho, o1, o2⟩ := hc
      rw [ho, Option.bind_some, w64 (show -9223372036854775808 ≤ a + o by omega) (by omega), w64 (show -9223372036854775808 ≤ i + 1 by omega) (by omega)]
      have r1 : idx l i = some (at' l i) := idx_at (by omega) (by omega)
      have r2 : idx l (a + o) = some (at' l (a + o)) := idx_at (by omega) (by omega)
      have r3 : ∀ x, idx (l.set i.toNat x) (a + o) = some (at' (l.set i.toNat x) (a + o)) := fun x => idx_set_at (by omega) (by omega)
      refine ⟨.inl (sw l i (a + o), i + 1, z'), ?_, ⟨hR.trans (Rg.swap ha (by omega) (by omega) (by omega) (by omega) (by omega)), by dsimp only; omega, by dsimp only; omega⟩, by dsimp only; omega⟩
      simp only [r1, r2, r3, Option.bind_some]
      rfl
    · exact ⟨.inr l, by simp only [hi, decide_false, cond_false], hR⟩
  · exact ⟨Rg.refl _ _ _, by dsimp only; omega, by dsimp only; omega⟩
  · rintro r hr
    exact ⟨r, rfl, hr⟩
end Go.Sx

namespace Go.Sx
/-- from a0 to b0 all pairs are in order, but for those from a to b -/
def Out (l : List Int) (a0 b0 a b : Int) : Prop := ∀ i j, a0 ≤ i → i < j → j < b0 → ¬ (a ≤ i ∧ j < b) → at' l i ≤ at' l j

theorem Out.keep {a0 a b b0 : Int} {l l' : List Int} (h : Rg a b l l') (h0 : 0 ≤ a0) (ha : a0 ≤ a) (hb : b ≤ b0) (c : Out l a0 b0 a b) : Out l' a0 b0 a b := by
  intro i j h1 h2 h3 h4
  by_cases hi : a ≤ i ∧ i < b
  · rw [h.out j (by omega) (by omega)]
    exact h.all (fun x => x ≤ at' l j) (fun k k1 k2 => c k j (by omega) (by omega) h3 (by omega)) i hi.1 hi.2
  · rw [h.out i (by omega) (by omega)]
    by_cases hj : a ≤ j ∧ j < b
    · exact h.all (fun x => at' l i ≤ x) (fun k k1 k2 => c i k (by omega) (by omega) (by omega) (by omega)) j hj.1 hj.2
    · rw [h.out j (by omega) (by omega)]; exact c i j h1 h2 h3 h4

theorem pdqsort_spec : ∀ (n : Nat) (l0 : List Int) (a0 b0 lim : Int), 0 ≤ a0 → a0 ≤ b0 → b0 ≤ l0.length → l0.length ≤ 1000000 → b0 - a0 ≤ 16 → b0 - a0 ≤ 12 + lim → 0 ≤ lim → lim ≤ 64 →
    (0 < a0 → ∀ k, a0 ≤ k → k < b0 → at' l0 (a0 - 1) ≤ at' l0 k) → b0 - a0 < n → ∃ l', D.slices_pdqsortOrdered_int64R n l0 a0 b0 lim = some l' ∧ Rg a0 b0 l0 l' ∧ Srt l' a0 b0 := by
  intro n
  induction n with
  | zero => intro l0 a0 b0 lim h1 h2 h3 h4 h5 h6 h7 h8 h9 h10; omega
  | succ n ih =>
    intro l0 a0 b0 lim h1 h2 h3 h4 h5 h6 h7 h8 h9 h10
    unfold D.slices_pdqsortOrdered_int64R
    refine loop_then (fun s => Rg a0 b0 l0 s.1 ∧ Out s.1 a0 b0 s.2.1 s.2.2.1 ∧ a0 ≤ s.2.1 ∧ s.2.1 ≤ s.2.2.1 ∧ s.2.2.1 ≤ b0 ∧ s.2.2.1 - s.2.1 ≤ 12 + s.2.2.2.1 ∧ 0 ≤ s.2.2.2.1 ∧ s.2.2.2.1 ≤ 64 ∧ (0 < s.2.1 → ∀ k, s.2.1 ≤ k → k < s.2.2.1 → at' s.1 (s.2.1 - 1) ≤ at' s.1 k))
      (fun s => (s.2.2.1 - s.2.1).toNat) (fun r => Rg a0 b0 l0 r ∧ Srt r a0 b0) ?_ ?_ ?_
    · rintro ⟨l, a, b, lm, bal, par⟩ ⟨hR, hO, g1, g2, g3, g4, g5, g6, g7⟩
      dsimp only at hR hO g1 g2 g3 g4 g5 g6 g7 ⊢
      have hll := hR.len
      have fin : ∀ l', Rg a b l l' → Srt l' a b → Rg a0 b0 l0 l' ∧ Srt l' a0 b0 := fun l' hr hs =>
        ⟨hR.trans (hr.widen g1 g3 h1), fun i j k1 k2 k3 => by
          by_cases hc : a ≤ i ∧ j < b
          · exact hs i j hc.1 k2 hc.2
          · exact (hO.keep hr h1 g1 g3) i j k1 k2 k3 hc⟩
      rw [w64 (show -9223372036854775808 ≤ b - a by omega) (by omega)]
      by_cases hs : b - a ≤ 12
      · obtain ⟨l', e, r1, r2⟩ := insertionSort_spec l a b (by omega) g2 (by omega) (by omega)
        refine ⟨.inr l', ?_, fin l' r1 r2⟩
        simp only [hs, decide_true, cond_true, e, Option.bind_some]
      · have hl0 : (lm == 0) = false := by simp; omega
        simp only [hs, decide_false, cond_false, hl0]
        refine bind_then (fun q : List Int × Int => Rg a b l q.1 ∧ b - a ≤ 13 + q.2 ∧ 0 ≤ q.2 ∧ q.2 ≤ 64) ?_ ?_
        · cases bal
          · obtain ⟨l1, e, r1⟩ := breakPatterns_spec l a b (by omega) (by omega) (by omega) (by omega) (by omega)
            refine ⟨(l1, lm - 1), ?_, r1, by dsimp only; omega, by dsimp only; omega, by dsimp only; omega⟩
            simp only [Bool.not_false, cond_true, e, Option.bind_some]
            rw [w64 (by omega) (by omega)]
          · exact ⟨(l, lm), rfl, Rg.refl _ _ _, by dsimp only; omega, by dsimp only; omega, by dsimp only; omega⟩
        rintro ⟨l1, lm1⟩ ⟨hr1, k1, k2, k3⟩
        dsimp only at hr1 k1 k2 k3 ⊢
        have hl1 := hr1.len
        obtain ⟨y, ey, c1, c2, c3⟩ := choosePivot_spec l1 a b (by omega) (by omega) (by omega) (by omega) (by omega)
        rw [ey, Option.bind_some]
        refine bind_then (fun q : List Int × Int × Int => Rg a b l q.1 ∧ a ≤ q.2.1 ∧ q.2.1 < b) ?_ ?_
        · cases (y.2.1 == 2)
          · exact ⟨_, rfl, by dsimp only; rw [c1]; exact hr1, c2, c3⟩
          · obtain ⟨l2, e2, r2⟩ := reverseRange_spec l1 a b (by omega) (by omega) (by omega) (by omega)
            rw [c1]
            simp only [cond_true, e2, Option.bind_some]
            rw [w64 (show -9223372036854775808 ≤ b - 1 by omega) (by omega), w64 (show -9223372036854775808 ≤ y.1 - a by omega) (by omega), w64 (show -9223372036854775808 ≤ b - 1 - (y.1 - a) by omega) (by omega)]
            exact ⟨_, rfl, hr1.trans r2, by dsimp only; omega, by dsimp only; omega⟩
        rintro ⟨l2, p, hint⟩ ⟨hr2, p1, p2⟩
        dsimp only at hr2 p1 p2 ⊢
        have hl2 := hr2.len
        refine bind_then (fun q : List Int ⊕ List Int => match q with | .inl q => q = l2 | .inr q => q = l2 ∧ Srt l2 a b) ?_ ?_
        · cases ((bal && par) && (hint == 1))
          · exact ⟨.inl l2, rfl, rfl⟩
          · obtain ⟨y2, e2, d1, d2⟩ := partialInsertion_spec l2 a b (by omega) (by omega) (by omega) (by omega) (by omega)
            simp only [cond_true, e2, Option.bind_some, d1]
            cases hy : y2.1
            · exact ⟨.inl l2, rfl, rfl⟩
            · exact ⟨.inr l2, rfl, rfl, d2 hy⟩
        rintro (q | q) hq
        case inr =>
          obtain ⟨rfl, hq⟩ := hq
          exact ⟨.inr q, rfl, fin q hr2 hq⟩
        dsimp only at hq ⊢
        subst hq
        have hO2 := hO.keep hr2 h1 g1 g3
        have g7' : 0 < a → ∀ k, a ≤ k → k < b → at' q (a - 1) ≤ at' q k := fun ha k m1 m2 => by
          rw [hr2.out (a - 1) (by omega) (.inl (by omega))]
          exact hr2.all (fun x => at' l (a - 1) ≤ x) (g7 ha) k m1 m2
        refine bind_then (fun c : Bool => c = true → 0 < a ∧ at' q p ≤ at' q (a - 1)) ?_ ?_
        · by_cases ha : 0 < a
          · have r1 : idx q (a - 1) = some (at' q (a - 1)) := idx_at (by omega) (by omega)
            have r2 : idx q p = some (at' q p) := idx_at (by omega) (by omega)
            rw [w64 (show -9223372036854775808 ≤ a - 1 by omega) (by omega)]
            simp only [ha, decide_true, cond_true, r1, r2, less_eq, Option.bind_some]
            exact ⟨_, rfl, fun h => ⟨by trivial, by simpa using h⟩⟩
          · simp only [ha, decide_false, cond_false]
            exact ⟨_, rfl, fun h => by cases h⟩
        intro c hc
        cases c
        · -- the pivot parts
          simp only [cond_false]
          obtain ⟨⟨mid, par', l3⟩, e3, P⟩ := partition_spec q a b p (by omega) (by omega) (by omega) p1 p2
          rw [e3, Option.bind_some]
          obtain ⟨hr3, m1, m2, m3, m4⟩ := P
          dsimp only at hr3 m1 m2 m3 m4 ⊢
          have hl3 := hr3.len
          have hO3 := hO2.keep hr3 h1 g1 g3
          have g7'' : 0 < a → ∀ k, a ≤ k → k < b → at' l3 (a - 1) ≤ at' l3 k := fun ha k n1 n2 => by
            rw [hr3.out (a - 1) (by omega) (.inl (by omega))]
            exact hr3.all (fun x => at' q (a - 1) ≤ x) (g7' ha) k n1 n2
          have hR3 : Rg a0 b0 l0 l3 := hR.trans ((hr2.trans hr3).widen g1 g3 h1)
          rw [w64 (show -9223372036854775808 ≤ mid - a by omega) (by omega), w64 (show -9223372036854775808 ≤ b - mid by omega) (by omega), w64 (show -9223372036854775808 ≤ mid + 1 by omega) (by omega)]
          by_cases hside : mid - a < b - mid
          · simp only [hside, decide_true, cond_true]
            obtain ⟨l4, e4, r4, s4⟩ := ih l3 a mid lm1 (by omega) m1 (by omega) (by omega) (by omega) (by omega) k2 k3 (fun ha k n1 n2 => g7'' ha k n1 (by omega)) (by omega)
            rw [e4, Option.bind_some]
            have hl4 := r4.len
            have em : ∀ k, mid ≤ k → at' l4 k = at' l3 k := fun k hk => r4.out k (by omega) (.inr hk)
            have lf : ∀ k, a ≤ k → k < mid → at' l4 k ≤ at' l4 mid := fun k n1 n2 => by
              rw [em mid (Int.le_refl _)]; exact r4.all (fun x => x ≤ at' l3 mid) m3 k n1 n2
            refine ⟨.inl _, rfl, ⟨hR3.trans (r4.widen g1 (by omega) h1), ?_, by dsimp only; omega, by dsimp only; omega, g3, by dsimp only; omega, k2, k3, ?_⟩, by dsimp only; omega⟩
            · have hO4 := hO3.keep (r4.widen (Int.le_refl a) (by omega) (by omega)) h1 g1 g3
              intro i j n1 n2 n3 n4
              dsimp only at n4 ⊢
              by_cases hin : a ≤ i ∧ j < b
              · by_cases hj : j < mid
                · exact s4 i j hin.1 n2 hj
                · have hi : i ≤ mid := by omega
                  have e1 : at' l4 i ≤ at' l4 mid := by
                    by_cases e : i = mid
                    · rw [e]; exact Int.le_refl _
                    · exact lf i hin.1 (by omega)
                  have e2 : at' l4 mid ≤ at' l4 j := by
                    by_cases e : j = mid
                    · rw [e]; exact Int.le_refl _
                    · rw [em mid (Int.le_refl _), em j (by omega)]; exact m4 j (by omega) hin.2
                  omega
              · exact hO4 i j n1 n2 n3 hin
            · intro _ k n1 n2
              dsimp only at n1 n2 ⊢
              rw [show mid + 1 - 1 = mid by omega, em mid (Int.le_refl _), em k (by omega)]
              exact m4 k (by omega) n2
          · simp only [hside, decide_false, cond_false]
            obtain ⟨l4, e4, r4, s4⟩ := ih l3 (mid + 1) b lm1 (by omega) (by omega) (by omega) (by omega) (by omega) (by omega) k2 k3 (fun _ k n1 n2 => by rw [show mid + 1 - 1 = mid by omega]; exact m4 k (by omega) n2) (by omega)
            rw [e4, Option.bind_some]
            have hl4 := r4.len
            have em : ∀ k, 0 ≤ k → k ≤ mid → at' l4 k = at' l3 k := fun k h0 hk => r4.out k h0 (.inl (by omega))
            have rt : ∀ k, mid < k → k < b → at' l4 mid ≤ at' l4 k := fun k n1 n2 => by
              rw [em mid (by omega) (Int.le_refl _)]; exact r4.all (fun x => at' l3 mid ≤ x) (fun k q1 q2 => m4 k (by omega) q2) k (by omega) n2
            refine ⟨.inl _, rfl, ⟨hR3.trans (r4.widen (by omega) g3 h1), ?_, g1, m1, by dsimp only; omega, by dsimp only; omega, k2, k3, ?_⟩, by dsimp only; omega⟩
            · have hO4 := hO3.keep (r4.widen (by omega) (Int.le_refl b) (by omega)) h1 g1 g3
              intro i j n1 n2 n3 n4
              dsimp only at n4 ⊢
              by_cases hin : a ≤ i ∧ j < b
              · by_cases hi : mid < i
                · exact s4 i j (by omega) n2 hin.2
                · have hj : mid ≤ j := by omega
                  have e1 : at' l4 i ≤ at' l4 mid := by
                    by_cases e : i = mid
                    · rw [e]; exact Int.le_refl _
                    · rw [em i (by omega) (by omega), em mid (by omega) (Int.le_refl _)]; exact m3 i hin.1 (by omega)
                  have e2 : at' l4 mid ≤ at' l4 j := by
                    by_cases e : j = mid
                    · rw [e]; exact Int.le_refl _
                    · exact rt j (by omega) hin.2
                  omega
              · exact hO4 i j n1 n2 n3 hin
            · intro ha k n1 n2
              dsimp only at ha n1 n2 ⊢
              rw [em (a - 1) (by omega) (by omega), em k (by omega) (by omega)]
              exact g7'' ha k n1 (by omega)
        · -- many are equal to the pivot
          simp only [cond_true]
          obtain ⟨hc1, hc2⟩ := hc rfl
          obtain ⟨⟨mid, l3⟩, e3, hr3, m1, m2, m3, m4⟩ := partitionEqual_spec q a b p (by omega) (by omega) (by omega) p1 p2
          rw [e3, Option.bind_some]
          dsimp only at hr3 m1 m2 m3 m4 ⊢
          have hl3 := hr3.len
          have hO3 := hO2.keep hr3 h1 g1 g3
          have lw : ∀ k, a ≤ k → k < b → at' q p ≤ at' l3 k := fun k n1 n2 =>
            hr3.all (fun x => at' q p ≤ x) (fun k q1 q2 => Int.le_trans hc2 (g7' hc1 k q1 q2)) k n1 n2
          refine ⟨.inl _, rfl, ⟨hR.trans ((hr2.trans hr3).widen g1 g3 h1), ?_, by dsimp only; omega, m2, g3, by dsimp only; omega, k2, k3, ?_⟩, by dsimp only; omega⟩
          · intro i j n1 n2 n3 n4
            dsimp only at n4 ⊢
            by_cases hin : a ≤ i ∧ j < b
            · have := m3 i hin.1 (by omega)
              have := lw j (by omega) hin.2
              omega
            · exact hO3 i j n1 n2 n3 hin
          · intro _ k n1 n2
            dsimp only at n1 n2 ⊢
            have := m3 (mid - 1) (by omega) (by omega)
            have := m4 k n1 n2
            omega
    · exact ⟨Rg.refl _ _ _, fun i j n1 n2 n3 n4 => by dsimp only at n4; omega, Int.le_refl _, h2, Int.le_refl _, h6, h7, h8, h9⟩
    · rintro r hr
      exact ⟨r, rfl, hr⟩
end Go.Sx

namespace Go.Sx
/-- slices.Sorted(slices.Values(l)), of a list that is not long -/
theorem sorted_spec (l : List Int) (hl : l.length ≤ 16) : ∃ y, D.slices_Sorted_int64 l = some y ∧ List.Perm y l ∧ Srt y 0 y.length := by
  unfold D.slices_Sorted_int64 D.slices_Collect_int64 D.slices_AppendSeq_int64_int64 D.slices_Sort_int64_int64 D.slices_pdqsortOrdered_int64 D.math_bits_Len
  rw [if_pos (show l.length ≤ 1000000 by omega)]
  simp only [Option.bind_some]
  rw [wu64 (by omega) (by omega), if_pos (by omega)]
  simp only [Option.bind_some]
  have hk : ∀ k : Nat, k ≤ 16 → k ≤ 12 + Lib.bitLen k ∧ Lib.bitLen k ≤ 64 := by decide
  obtain ⟨k1, k2⟩ := hk l.length hl
  have e : ((l.length : Int)).toNat = l.length := by omega
  have hb := recFuel_big
  obtain ⟨y, hy, hr, hs⟩ := pdqsort_spec recFuel l 0 l.length (Lib.bitLen l.length : Nat) (by omega) (by omega) (by omega) (by omega) (by omega) (by omega) (by omega) (by omega) (fun h => absurd h (by omega)) (by omega)
  rw [e, hy]
  refine ⟨y, rfl, hr.perm, ?_⟩
  rw [hr.len]; exact hs
end Go.Sx


